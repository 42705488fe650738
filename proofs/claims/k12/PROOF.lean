import PyProof.Rows.All
import Wide.All
import OpenK.AllK
import Wide.FinOn
import HandS.ForMost
import HandS.ForExc
import HandS.Exc
import HandS.TupAny
import HandS.IsInst
import HandS.CallSlots
import KE.KDictKeyed
import KE.KDictWalk
import HandS.Deep
import HandS.Zip
import KE.GoesMore
import KE.GoesEnum
import HandS.NoneIn
import HandS.Property
import HandS.TupMul
import HandS.TryMany
import HandS.ExcIs
import HandS.ExcField
import HandS.ExcInit
import HandS.Small
import KE.KExcIs
import HandS.Style
import HandS.Dict
import HandS.Iter
import KE.KDictOf
import KE.KDictDisplayH
import KE.KDictCopyH
import PyProof.DictUpdate
import HandS.More
import HandS.WordsDict
import HandS.Star
import KE.SortData
import KE.DataMinMax
import HandS.Conv
import KE.DataEq
import HandS.OwnEq
import PyProof.ListMulAny
import PyProof.Rows.ListMulArg
import PyProof.InstEq
import PyProof.EqKinds
import HandS.DictComp
import KE.LtData
import KE.DataMinKey
import HandS.SortKw
import HandS.SetFor
import HandS.SortInts
import PyProof.SumWalkG
import HandS.ExcCtx
import HandS.SuiteRaise
import HandS.ExcInitHot
import HandS.HotCalls
import HandS.RaiseFrom
import HandS.ExcValue
import HandS.Text
import PyProof.StrOps2
import HandS.Strs
import HandS.TupSets
import PySem.Challenge.RW_plugstrip_k12_numbers_of_kinds
set_option Elab.async false
set_option linter.all false
set_option maxRecDepth 100000
set_option maxHeartbeats 4000000
namespace Dl
open PySem L2
inductive D where
  | non | bl (b : Bool) | int (i : Int) | str (x : Str)
  | tup (ds : List D) | lst (ds : List D)
  | obj (c : Str) (fs : List (Str × D))
  | dcK (kvs : List (Key × D)) | dcN (kvs : List (D × D))
def nk : D → NestedKey
  | .int i => .num i
  | .bl b => .num (if b = true then 1 else 0)
  | .str x => .text x
  | .tup ds => .tup (nks ds)
  | _ => .none
where nks : List D → List NestedKey
  | [] => []
  | d :: ds => nk d :: nks ds
def keyOk : Nat → D → Bool
  | _, .int _ => true
  | _, .bl _ => true
  | n + 1, .tup ds => keyOks n ds
  | _, _ => false
where keyOks : Nat → List D → Bool
  | _, [] => true
  | n, d :: ds => keyOk n d && keyOks n ds
structure Exn where
  cls : Str
  fs : List (Str × D)
inductive OD where
  | lst (ds : List D)
  | ins (c : Str) (fs : List (Str × D))
  | dcK (kvs : List (Key × D))
  | dcN (kvs : List (D × D))
inductive SV where
  | val (d : D) | own (k : Nat) | exc (x : Exn) | lk (kvs : List (Key × D)) | ans (ks : List Nat) (o : Option (List D))
abbrev Om := List (Option OD)
abbrev Rho := List (Option SV)
inductive Res (β : Type) where
  | stuck | ok (a : β) (ω : Om) | exc (x : Exn) (ω : Om)
def Res.bind {β γ : Type} (r : Res β) (g : β → Om → Res γ) : Res γ := match r with
  | .stuck => .stuck
  | .ok a ω => g a ω
  | .exc x ω => .exc x ω
def Res.lift {β : Type} (o : Option β) (ω : Om) : Res β := match o with
  | some b => .ok b ω
  | none => .stuck
abbrev MG := Str → Option Value
mutual
def hashN : NestedKey → Int
  | .num i => hashInt i
  | .tup ks => reduceHash (Builtin.Tuple.tupleHashOf (hashNs ks))
  | _ => 0
def hashNs : List NestedKey → List Int
  | [] => []
  | k :: ks => hashN k :: hashNs ks
end
def dnAt (a : Addr) (ep : Nat) (es : List (NestedKey × Addr × V)) (h : Heap) : Prop := (a == sysModules) = false ∧ es.length ≤ sizeLine ∧ (es.map (·.1)).Nodup ∧ ∃ xs : List (NestedKey × Addr × Value), Paired (fun e x => e.1 = x.1 ∧ e.2.1 = x.2.1 ∧ RelV e.2.2 x.2.2) es xs ∧
  ∃ o ens, h.get? a = some o ∧ o.ExactDict ∧ o.data = .dict ens ep ∧ ens.toList = xs.map fun x => ⟨hashN x.1, .ref x.2.1, x.2.2⟩
def dnO (a : Addr) (ep : Nat) (es : List (NestedKey × Addr × V)) : HO := .ext (dnAt a ep es)
mutual
def Rep (K : PySem.W.Frag) (mg : MG) (G : Hp) : D → V → Prop
  | .non, v => v = .non
  | .bl b, v => v = .bl b
  | .int i, v => v = .int i
  | .str x, v => v = .str x
  | .tup ds, v => ∃ a vs, v = .ref a ∧ SqT K G a vs ∧ Reps K mg G ds vs
  | .lst ds, v => ∃ a vs, v = .ref a ∧ SqL K G a vs ∧ Reps K mg G ds vs
  | .obj c fs, v => ∃ a C dx fvs, v = .ref a ∧ mg c = some (.ref C) ∧ G a = some (.ins C dx fvs) ∧ RepF K mg G fs fvs
  | .dcK kvs, v => ∃ a kv, v = .ref a ∧ G a = some (.dK kv) ∧ RepK K mg G kvs kv
  | .dcN kvs, v => ∃ a ep es, v = .ref a ∧ G a = some (dnO a ep es) ∧ RepN K mg G kvs es
def RepK (K : PySem.W.Frag) (mg : MG) (G : Hp) : List (Key × D) → List (Key × V) → Prop
  | [], vs => vs = []
  | (k, d) :: ds, vs => ∃ v r, vs = (k, v) :: r ∧ Rep K mg G d v ∧ RepK K mg G ds r
def RepN (K : PySem.W.Frag) (mg : MG) (G : Hp) : List (D × D) → List (NestedKey × Addr × V) → Prop
  | [], vs => vs = []
  | (k, d) :: ds, vs => ∃ b v r, vs = (nk k, b, v) :: r ∧ keyOk 8 k = true ∧ Rep K mg G k (.ref b) ∧ Rep K mg G d v ∧ RepN K mg G ds r
def Reps (K : PySem.W.Frag) (mg : MG) (G : Hp) : List D → List V → Prop
  | [], vs => vs = []
  | d :: ds, vs => ∃ v r, vs = v :: r ∧ Rep K mg G d v ∧ Reps K mg G ds r
def RepF (K : PySem.W.Frag) (mg : MG) (G : Hp) : List (Str × D) → List (Str × V) → Prop
  | [], vs => vs = []
  | (f, d) :: ds, vs => ∃ v r, vs = (f, v) :: r ∧ Rep K mg G d v ∧ RepF K mg G ds r
end
section
variable {K : PySem.W.Frag} {mg : MG} {G G' H H' : Hp}
theorem Same.sqT {a : Addr} {xs : List V} (e : Same H H') (h : SqT K H a xs) : SqT K H' a xs := by
  rcases h with (h | ⟨o, h⟩) | h
  · exact .inl (.inl (e _ _ h))
  · exact .inl (.inr ⟨o, e _ _ h⟩)
  · exact .inr h
mutual
theorem Rep.mono (s : Same G G') : ∀ (d : D) (v : V), Rep K mg G d v → Rep K mg G' d v
  | .non, _, h => by unfold Rep at *; exact h
  | .bl _, _, h => by unfold Rep at *; exact h
  | .int _, _, h => by unfold Rep at *; exact h
  | .str _, _, h => by unfold Rep at *; exact h
  | .tup ds, _, h => by
    unfold Rep at *
    obtain ⟨a, vs, e, q, r⟩ := h
    exact ⟨a, vs, e, Same.sqT s q, Reps.mono s ds vs r⟩
  | .lst ds, _, h => by
    unfold Rep at *
    obtain ⟨a, vs, e, q, r⟩ := h
    exact ⟨a, vs, e, s.seq q, Reps.mono s ds vs r⟩
  | .obj c fs, _, h => by
    unfold Rep at *
    obtain ⟨a, C, dx, fvs, e, m, q, r⟩ := h
    exact ⟨a, C, dx, fvs, e, m, s _ _ q, RepF.mono s fs fvs r⟩
  | .dcK kvs, _, h => by
    unfold Rep at *
    obtain ⟨a, kv, e, q, r⟩ := h
    exact ⟨a, kv, e, s _ _ q, RepK.mono s kvs kv r⟩
  | .dcN kvs, _, h => by
    unfold Rep at *
    obtain ⟨a, ep, es, e, q, r⟩ := h
    exact ⟨a, ep, es, e, s _ _ q, RepN.mono s kvs es r⟩
theorem RepK.mono (s : Same G G') : ∀ (ds : List (Key × D)) (vs : List (Key × V)), RepK K mg G ds vs → RepK K mg G' ds vs
  | [], _, h => by unfold RepK at *; exact h
  | (k, d) :: ds, _, h => by
    unfold RepK at *
    obtain ⟨v, r, e, h1, h2⟩ := h
    exact ⟨v, r, e, Rep.mono s d v h1, RepK.mono s ds r h2⟩
theorem RepN.mono (s : Same G G') : ∀ (ds : List (D × D)) (vs : List (NestedKey × Addr × V)), RepN K mg G ds vs → RepN K mg G' ds vs
  | [], _, h => by unfold RepN at *; exact h
  | (k, d) :: ds, _, h => by
    unfold RepN at *
    obtain ⟨b, v, r, e, ok, h1, h2, h3⟩ := h
    exact ⟨b, v, r, e, ok, Rep.mono s k _ h1, Rep.mono s d v h2, RepN.mono s ds r h3⟩
theorem Reps.mono (s : Same G G') : ∀ (ds : List D) (vs : List V), Reps K mg G ds vs → Reps K mg G' ds vs
  | [], _, h => by unfold Reps at *; exact h
  | d :: ds, _, h => by
    unfold Reps at *
    obtain ⟨v, r, e, h1, h2⟩ := h
    exact ⟨v, r, e, Rep.mono s d v h1, Reps.mono s ds r h2⟩
theorem RepF.mono (s : Same G G') : ∀ (ds : List (Str × D)) (vs : List (Str × V)), RepF K mg G ds vs → RepF K mg G' ds vs
  | [], _, h => by unfold RepF at *; exact h
  | (f, d) :: ds, _, h => by
    unfold RepF at *
    obtain ⟨v, r, e, h1, h2⟩ := h
    exact ⟨v, r, e, Rep.mono s d v h1, RepF.mono s ds r h2⟩
end
theorem rep_non {v : V} : Rep K mg G .non v ↔ v = .non := by unfold Rep; exact Iff.rfl
theorem rep_bl {v : V} {b : Bool} : Rep K mg G (.bl b) v ↔ v = .bl b := by unfold Rep; exact Iff.rfl
theorem rep_int {v : V} {b : Int} : Rep K mg G (.int b) v ↔ v = .int b := by unfold Rep; exact Iff.rfl
theorem rep_str {v : V} {b : Str} : Rep K mg G (.str b) v ↔ v = .str b := by unfold Rep; exact Iff.rfl
theorem rep_tup {v : V} {ds : List D} : Rep K mg G (.tup ds) v ↔ ∃ a vs, v = .ref a ∧ SqT K G a vs ∧ Reps K mg G ds vs := by rw [Rep]
theorem rep_lst {v : V} {ds : List D} : Rep K mg G (.lst ds) v ↔ ∃ a vs, v = .ref a ∧ SqL K G a vs ∧ Reps K mg G ds vs := by rw [Rep]
theorem rep_obj {v : V} {c : Str} {fs : List (Str × D)} : Rep K mg G (.obj c fs) v ↔ ∃ a C dx fvs, v = .ref a ∧ mg c = some (.ref C) ∧ G a = some (.ins C dx fvs) ∧ RepF K mg G fs fvs := by rw [Rep]
theorem rep_dcK {v : V} {kvs : List (Key × D)} : Rep K mg G (.dcK kvs) v ↔ ∃ a kv, v = .ref a ∧ G a = some (.dK kv) ∧ RepK K mg G kvs kv := by rw [Rep]
theorem rep_dcN {v : V} {kvs : List (D × D)} : Rep K mg G (.dcN kvs) v ↔ ∃ a ep es, v = .ref a ∧ G a = some (dnO a ep es) ∧ RepN K mg G kvs es := by rw [Rep]
theorem repK_nil {vs : List (Key × V)} : RepK K mg G [] vs ↔ vs = [] := by rw [RepK]
theorem repK_cons {vs : List (Key × V)} {k : Key} {d : D} {ds : List (Key × D)} : RepK K mg G ((k, d) :: ds) vs ↔ ∃ v r, vs = (k, v) :: r ∧ Rep K mg G d v ∧ RepK K mg G ds r := by rw [RepK]
theorem repN_nil {vs : List (NestedKey × Addr × V)} : RepN K mg G [] vs ↔ vs = [] := by rw [RepN]
theorem repN_cons {vs : List (NestedKey × Addr × V)} {k d : D} {ds : List (D × D)} : RepN K mg G ((k, d) :: ds) vs ↔ ∃ b v r, vs = (nk k, b, v) :: r ∧ keyOk 8 k = true ∧ Rep K mg G k (.ref b) ∧ Rep K mg G d v ∧ RepN K mg G ds r := by rw [RepN]
theorem reps_nil {vs : List V} : Reps K mg G [] vs ↔ vs = [] := by rw [Reps]
theorem reps_cons {vs : List V} {d : D} {ds : List D} : Reps K mg G (d :: ds) vs ↔ ∃ v r, vs = v :: r ∧ Rep K mg G d v ∧ Reps K mg G ds r := by rw [Reps]
theorem repF_nil {vs : List (Str × V)} : RepF K mg G [] vs ↔ vs = [] := by rw [RepF]
theorem repF_cons {vs : List (Str × V)} {f : Str} {d : D} {ds : List (Str × D)} : RepF K mg G ((f, d) :: ds) vs ↔ ∃ v r, vs = (f, v) :: r ∧ Rep K mg G d v ∧ RepF K mg G ds r := by rw [RepF]
theorem Reps.length : ∀ {ds : List D} {vs : List V}, Reps K mg G ds vs → vs.length = ds.length
  | [], vs, h => by rw [reps_nil] at h; rw [h]; rfl
  | d :: ds, vs, h => by
    rw [reps_cons] at h
    obtain ⟨v, r, e, _, h2⟩ := h
    rw [e, List.length_cons, List.length_cons, Reps.length h2]
theorem Reps.get : ∀ {ds : List D} {vs : List V} {i : Nat} {d : D}, Reps K mg G ds vs → ds[i]? = some d → ∃ v, vs[i]? = some v ∧ Rep K mg G d v
  | [], _, i, d, _, e => by simp at e
  | d :: ds, vs, 0, d', h, e => by
    rw [reps_cons] at h
    obtain ⟨v, r, rfl, h1, _⟩ := h
    simp at e; subst e
    exact ⟨v, rfl, h1⟩
  | d :: ds, vs, i + 1, d', h, e => by
    rw [reps_cons] at h
    obtain ⟨v, r, rfl, _, h2⟩ := h
    obtain ⟨w, h3, h4⟩ := Reps.get (i := i) (d := d') h2 (by simpa using e)
    exact ⟨w, by simpa using h3, h4⟩
theorem Reps.append : ∀ {ds es : List D} {vs us : List V}, Reps K mg G ds vs → Reps K mg G es us → Reps K mg G (ds ++ es) (vs ++ us)
  | [], _, _, _, h, q => by rw [reps_nil] at h; subst h; exact q
  | d :: ds, es, vs, us, h, q => by
    rw [reps_cons] at h
    obtain ⟨v, r, rfl, h1, h2⟩ := h
    rw [List.cons_append, reps_cons]
    exact ⟨v, r ++ us, rfl, h1, Reps.append h2 q⟩
theorem Reps.take : ∀ {ds : List D} {vs : List V} (n : Nat), Reps K mg G ds vs → Reps K mg G (ds.take n) (vs.take n)
  | _, _, 0, _ => by rw [List.take_zero, List.take_zero, reps_nil]
  | [], vs, n + 1, h => by rw [reps_nil] at h; subst h; rw [List.take_nil, List.take_nil, reps_nil]
  | d :: ds, vs, n + 1, h => by
    rw [reps_cons] at h
    obtain ⟨v, r, rfl, h1, h2⟩ := h
    rw [List.take_succ_cons, List.take_succ_cons, reps_cons]
    exact ⟨v, _, rfl, h1, Reps.take n h2⟩
theorem Reps.drop : ∀ {ds : List D} {vs : List V} (n : Nat), Reps K mg G ds vs → Reps K mg G (ds.drop n) (vs.drop n)
  | _, _, 0, h => by rw [List.drop_zero, List.drop_zero]; exact h
  | [], vs, n + 1, h => by rw [reps_nil] at h; subst h; rw [List.drop_nil, List.drop_nil, reps_nil]
  | d :: ds, vs, n + 1, h => by
    rw [reps_cons] at h
    obtain ⟨v, r, rfl, h1, h2⟩ := h
    rw [List.drop_succ_cons, List.drop_succ_cons]
    exact Reps.drop n h2
theorem Reps.set {d : D} {v : V} (h : Rep K mg G d v) : ∀ {ds : List D} {vs : List V} (i : Nat), Reps K mg G ds vs → Reps K mg G (ds.set i d) (vs.set i v)
  | [], vs, i, q => by rw [reps_nil] at q; subst q; rw [List.set_nil, List.set_nil, reps_nil]
  | e :: ds, vs, 0, q => by
    rw [reps_cons] at q
    obtain ⟨w, r, rfl, h1, h2⟩ := q
    rw [List.set_cons_zero, List.set_cons_zero, reps_cons]
    exact ⟨v, r, rfl, h, h2⟩
  | e :: ds, vs, i + 1, q => by
    rw [reps_cons] at q
    obtain ⟨w, r, rfl, h1, h2⟩ := q
    rw [List.set_cons_succ, List.set_cons_succ, reps_cons]
    exact ⟨w, _, rfl, h1, Reps.set h i h2⟩
theorem Reps.one {d : D} {v : V} (h : Rep K mg G d v) : Reps K mg G [d] [v] := by
  rw [reps_cons]; exact ⟨v, [], rfl, h, by rw [reps_nil]⟩
theorem reps_ints : ∀ (ns : List Int), Reps K mg G (ns.map D.int) (ns.map V.int)
  | [] => by rw [List.map_nil, reps_nil]; rfl
  | n :: ns => by
    rw [List.map_cons, reps_cons]
    exact ⟨_, _, rfl, rep_int.mpr rfl, reps_ints ns⟩
theorem RepF.look : ∀ {fs : List (Str × D)} {vs : List (Str × V)} {f : Str} {d : D}, RepF K mg G fs vs → fs.lookup f = some d → ∃ v, vs.lookup f = some v ∧ Rep K mg G d v
  | [], _, f, d, _, e => by simp at e
  | (g, x) :: fs, vs, f, d, h, e => by
    rw [repF_cons] at h
    obtain ⟨v, r, rfl, h1, h2⟩ := h
    rw [List.lookup_cons] at e ⊢
    cases q : (f == g) with
    | true => rw [q] at e; cases e; exact ⟨v, rfl, h1⟩
    | false => rw [q] at e; exact RepF.look h2 e
theorem RepF.no : ∀ {fs : List (Str × D)} {vs : List (Str × V)} {f : Str}, RepF K mg G fs vs → fs.lookup f = none → vs.lookup f = none
  | [], _, f, h, e => by rw [repF_nil] at h; subst h; rfl
  | (g, x) :: fs, vs, f, h, e => by
    rw [repF_cons] at h
    obtain ⟨v, r, rfl, h1, h2⟩ := h
    rw [List.lookup_cons] at e ⊢
    cases q : (f == g) with
    | true => rw [q] at e; cases e
    | false => rw [q] at e; exact RepF.no h2 e
theorem RepF.length : ∀ {fs : List (Str × D)} {vs : List (Str × V)}, RepF K mg G fs vs → vs.length = fs.length
  | [], _, h => by rw [repF_nil] at h; rw [h]; rfl
  | (g, x) :: fs, vs, h => by
    rw [repF_cons] at h
    obtain ⟨v, r, rfl, h1, h2⟩ := h
    rw [List.length_cons, List.length_cons, RepF.length h2]
def putD (f : Str) (d : D) : List (Str × D) → List (Str × D)
  | [] => [(f, d)]
  | (g, x) :: r => if g = f then (f, d) :: r else (g, x) :: putD f d r
end
def exV (cls : Value) (d : Option Addr) (a : Addr) : HO := .ext fun h => ∃ (oe : Obj) (vs : Array Value), h.get? a = some oe ∧ Zc cls d oe ∧ oe.data = .fields vs
section
variable (K : PySem.W.Frag) (mg : MG)
def OwnAt (G H : Hp) (a : Addr) : OD → Prop
  | .lst ds => ∃ vs, H a = some (.lst vs) ∧ Reps K mg G ds vs
  | .ins c fs => ∃ C dx fvs, mg c = some (.ref C) ∧ H a = some (.ins C dx fvs) ∧ RepF K mg G fs fvs
  | .dcK kvs => ∃ kv, H a = some (.dK kv) ∧ RepK K mg G kvs kv
  | .dcN kvs => ∃ ep es, H a = some (dnO a ep es) ∧ RepN K mg G kvs es
structure Own (G : Hp) (α : List Addr) (ω : Om) (H : Hp) : Prop where
  sub : Same G H
  len : α.length = ω.length
  nd : α.Nodup
  ex : ∀ a ∈ α, ∃ o, H a = some o
  obj : ∀ (k : Nat) o a, ω[k]? = some (some o) → α[k]? = some a → G a = none ∧ OwnAt K mg G H a o
def RepX (G : Hp) (x : Exn) (c : Value) (dd : Option Addr) : Prop :=
  ∃ C, mg x.cls = some (.ref C) ∧ c = .ref C ∧ ((x.fs = [] ∧ dd = none) ∨ ∃ d fvs, dd = some d ∧ G d = some (.xd fvs) ∧ RepF K mg G x.fs fvs)
def RepA (G : Hp) (α : List Addr) (ks : List Nat) (b : Addr) : Prop := ∃ as : List Addr, G b = some (.lst (as.map V.ref)) ∧ ks.length = as.length ∧ ∀ (i k : Nat), ks[i]? = some k → α[k]? = as[i]?
def RepV (G : Hp) (α : List Addr) : SV → V → Prop
  | .val d, v => Rep K mg G d v
  | .own k, v => ∃ a, α[k]? = some a ∧ v = .ref a
  | .exc x, v => ∃ a cls d, v = .ref a ∧ G a = some (exV cls d a) ∧ RepX K mg G x cls d
  | .lk kvs, v => ∃ a od kv, v = .ref a ∧ G a = some (.frz od (.dK kv)) ∧ RepK K mg G kvs kv
  | .ans ks none, v => ∃ b, v = .ref b ∧ RepA G α ks b
  | .ans ks (some ds), v => ∃ c b e, v = .ref c ∧ G c = some (.lst [.ref b, .ref e]) ∧ RepA G α ks b ∧ Rep K mg G (.lst ds) (.ref e)
def RepVs (G : Hp) (α : List Addr) : List SV → List V → Prop := Paired (RepV K mg G α)
structure Slots (G : Hp) (α : List Addr) (ρ : Rho) (σ : St) : Prop where
  len : σ.length = ρ.length
  val : ∀ (i : Nat) x, ρ[i]? = some (some x) → ∃ v, σ[i]? = some (some v) ∧ RepV K mg G α x v
end
structure Ext (G : Hp) (α : List Addr) (H G' : Hp) (α' : List Addr) (H' : Hp) : Prop where
  g : Same G G'
  new : ∀ a o, G' a = some o → G a = some o ∨ H a = none ∨ a ∈ α
  keep : ∀ a o, H a = some o → a ∉ α → H' a = some o
  live : ∀ a o, H a = some o → ∃ o', H' a = some o'
  pre : ∃ more, α' = α ++ more ∧ ∀ a ∈ more, H a = none
structure Grow (G H G' H' : Hp) : Prop where
  g : Same G G'
  h : Same H H'
  s : Same G' H'
  new : ∀ a o, G' a = some o → G a = some o ∨ H a = none
section
variable {K : PySem.W.Frag} {mg : MG} {G G1 G2 H H1 H2 : Hp} {α α1 α2 : List Addr} {ω : Om}
theorem Ext.refl : Ext G α H G α H := ⟨Same.refl _, fun _ _ h => .inl h, fun _ _ h _ => h, fun _ o h => ⟨o, h⟩, [], by simp, by simp⟩
theorem Ext.trans (a : Ext G α H G1 α1 H1) (b : Ext G1 α1 H1 G2 α2 H2) : Ext G α H G2 α2 H2 := by
  obtain ⟨m1, e1, n1⟩ := a.pre
  obtain ⟨m2, e2, n2⟩ := b.pre
  have dead : ∀ x, H1 x = none → H x = none := fun x hx => by
    cases q : H x with
    | none => rfl
    | some o => obtain ⟨o', q'⟩ := a.live x o q; rw [hx] at q'; cases q'
  refine ⟨a.g.trans b.g, fun x o h => ?_, fun x o h n => ?_, fun x o h => ?_, m1 ++ m2, by rw [e2, e1, List.append_assoc], fun x hx => ?_⟩
  · rcases b.new x o h with h | h | h
    · exact a.new x o h
    · exact .inr (.inl (dead x h))
    · rw [e1] at h
      rcases List.mem_append.mp h with h | h
      · exact .inr (.inr h)
      · exact .inr (.inl (n1 x h))
  · refine b.keep x o (a.keep x o h n) fun z => ?_
    rw [e1] at z
    rcases List.mem_append.mp z with z | z
    · exact n z
    · rw [n1 x z] at h; cases h
  · obtain ⟨o', h'⟩ := a.live x o h
    exact b.live x o' h'
  · rcases List.mem_append.mp hx with z | z
    · exact n1 x z
    · exact dead x (n2 x z)
theorem Grow.refl (s : Same G H) : Grow G H G H := ⟨Same.refl _, Same.refl _, s, fun _ _ h => .inl h⟩
theorem Grow.trans (a : Grow G H G1 H1) (b : Grow G1 H1 G2 H2) : Grow G H G2 H2 :=
  ⟨a.g.trans b.g, a.h.trans b.h, b.s, fun x o h => (b.new x o h).elim (a.new x o) fun z => .inr (a.h.free z)⟩
theorem Same.upd {p : Addr} {o : HO} (h : H p = none) : Same H (L2.upd H p o) := fun b u e => by rw [upd_ne (ne_of_none e h)]; exact e
theorem Grow.put {p : Addr} {o : HO} (s : Same G H) (h : H p = none) : Grow G H (L2.upd G p o) (L2.upd H p o) := by
  have hg := s.free h
  refine ⟨Same.upd hg, Same.upd h, fun b u e => ?_, fun a u e => ?_⟩
  · by_cases q : b = p
    · subst q; rw [upd_same] at e ⊢; exact e
    · rw [upd_ne q] at e ⊢; exact s b u e
  · by_cases q : a = p
    · subst q; exact .inr h
    · rw [upd_ne q] at e; exact .inl e
theorem Grow.side {p : Addr} {o : HO} (s : Same G H) (h : H p = none) : Grow G H G (L2.upd H p o) :=
  ⟨Same.refl _, Same.upd h, s.trans (Same.upd h), fun _ _ e => .inl e⟩
theorem OwnAt.mono {a : Addr} (sg : Same G G1) (e : H1 a = H a) : ∀ {o : OD}, OwnAt K mg G H a o → OwnAt K mg G1 H1 a o
  | .lst ds, ⟨vs, h1, h2⟩ => ⟨vs, e.trans h1, Reps.mono sg _ _ h2⟩
  | .ins c fs, ⟨C, dx, fvs, m, h1, h2⟩ => ⟨C, dx, fvs, m, e.trans h1, RepF.mono sg _ _ h2⟩
  | .dcK kvs, ⟨kv, h1, h2⟩ => ⟨kv, e.trans h1, RepK.mono sg _ _ h2⟩
  | .dcN kvs, ⟨ep, es, h1, h2⟩ => ⟨ep, es, e.trans h1, RepN.mono sg _ _ h2⟩
theorem OwnAt.there {a : Addr} : ∀ {o : OD}, OwnAt K mg G H a o → ∃ u, H a = some u
  | .lst ds, ⟨vs, h1, h2⟩ => ⟨_, h1⟩
  | .ins c fs, ⟨C, dx, fvs, m, h1, h2⟩ => ⟨_, h1⟩
  | .dcK kvs, ⟨kv, h1, h2⟩ => ⟨_, h1⟩
  | .dcN kvs, ⟨ep, es, h1, h2⟩ => ⟨_, h1⟩
theorem Own.grow (O : Own K mg G α ω H) (g : Grow G H G1 H1) : Own K mg G1 α ω H1 := by
  refine ⟨g.s, O.len, O.nd, fun a ha => let ⟨o, h⟩ := O.ex a ha; ⟨o, g.h a o h⟩, fun k o a h1 h2 => ?_⟩
  obtain ⟨n, q⟩ := O.obj k o a h1 h2
  obtain ⟨u, hu⟩ := q.there
  refine ⟨?_, q.mono g.g ((g.h a u hu).trans hu.symm)⟩
  cases z : G1 a with
  | none => rfl
  | some w =>
    rcases g.new a w z with y | y
    · rw [n] at y; cases y
    · rw [hu] at y; cases y
theorem Grow.ext (g : Grow G H G1 H1) : Ext G α H G1 α H1 :=
  ⟨g.g, fun a o h => (g.new a o h).elim .inl fun z => .inr (.inl z), fun a o h _ => g.h a o h, fun a o h => ⟨o, g.h a o h⟩, [], by simp, by simp⟩
theorem RepX.mono {K : PySem.W.Frag} {mg : MG} {G G1 : Hp} {x : Exn} {cls : Value} {d : Option Addr} (s : Same G G1) (r : RepX K mg G x cls d) : RepX K mg G1 x cls d := by
  obtain ⟨C, h1, h2, h3 | ⟨dd, fvs, h3, h4, h5⟩⟩ := r
  · exact ⟨C, h1, h2, .inl h3⟩
  · exact ⟨C, h1, h2, .inr ⟨dd, fvs, h3, s _ _ h4, RepF.mono s _ _ h5⟩⟩
theorem RepA.mono (s : Same G G1) (p : ∃ more, α1 = α ++ more) {ks : List Nat} {b : Addr} (r : RepA G α ks b) : RepA G1 α1 ks b := by
  obtain ⟨as, h1, h2, h3⟩ := r
  obtain ⟨m, rfl⟩ := p
  refine ⟨as, s _ _ h1, h2, fun i k hk => ?_⟩
  have q := h3 i k hk
  have hi : i < as.length := by rw [← h2]; exact (List.getElem?_eq_some_iff.mp hk).1
  rw [List.getElem?_eq_getElem hi] at q ⊢
  rw [List.getElem?_append_left (List.getElem?_eq_some_iff.mp q).1]
  exact q
theorem RepV.mono (s : Same G G1) (p : ∃ more, α1 = α ++ more) : ∀ {x : SV} {v : V}, RepV K mg G α x v → RepV K mg G1 α1 x v
  | .val d, v, h => Rep.mono s d v h
  | .own k, v, ⟨a, h1, h2⟩ => by
    obtain ⟨m, rfl⟩ := p
    refine ⟨a, ?_, h2⟩
    rw [List.getElem?_append_left (List.getElem?_eq_some_iff.mp h1).1]
    exact h1
  | .exc x, v, ⟨a, cls, d, h1, h2, h3⟩ => ⟨a, cls, d, h1, s _ _ h2, RepX.mono s h3⟩
  | .lk kvs, v, ⟨a, od, kv, h1, h2, h3⟩ => ⟨a, od, kv, h1, s _ _ h2, RepK.mono s _ _ h3⟩
  | .ans ks none, v, ⟨b, h1, h2⟩ => ⟨b, h1, h2.mono s p⟩
  | .ans ks (some ds), v, ⟨c, b, e, h1, h2, h3, h4⟩ => ⟨c, b, e, h1, s _ _ h2, h3.mono s p, Rep.mono s _ _ h4⟩
theorem Ext.pre' (e : Ext G α H G1 α1 H1) : ∃ more, α1 = α ++ more := let ⟨m, h, _⟩ := e.pre; ⟨m, h⟩
theorem Slots.mono {ρ : Rho} {σ : St} (S : Slots K mg G α ρ σ) (e : Ext G α H G1 α1 H1) : Slots K mg G1 α1 ρ σ :=
  ⟨S.len, fun i x h => let ⟨v, h1, h2⟩ := S.val i x h; ⟨v, h1, h2.mono e.g e.pre'⟩⟩
theorem RepVs.mono (s : Same G G1) (p : ∃ more, α1 = α ++ more) : ∀ {xs : List SV} {vs : List V}, RepVs K mg G α xs vs → RepVs K mg G1 α1 xs vs
  | _, _, .nil => .nil
  | _, _, .cons h t => .cons (h.mono s p) (RepVs.mono s p t)
theorem Slots.set {ρ : Rho} {σ : St} {x : SV} {v : V} (S : Slots K mg G α ρ σ) (i : Nat) (h : RepV K mg G α x v) : Slots K mg G α (ρ.set i (some x)) (σ.set i (some v)) := by
  refine ⟨by simp [S.len], fun j y e => ?_⟩
  by_cases q : i = j
  · subst q
    by_cases hl : i < ρ.length
    · rw [List.getElem?_set_self hl] at e
      cases e
      exact ⟨v, List.getElem?_set_self (by rw [S.len]; exact hl), h⟩
    · rw [List.getElem?_eq_none (by simp; omega)] at e; cases e
  · rw [List.getElem?_set_ne q] at e
    obtain ⟨w, h1, h2⟩ := S.val j y e
    exact ⟨w, by rw [List.getElem?_set_ne q]; exact h1, h2⟩
end
end Dl
namespace Dl
open PySem L2
section
variable (K : PySem.W.Frag) (mg : MG)
def Post {β γ : Type} (R : Hp → List Addr → Hp → β → γ → Prop) (G : Hp) (α : List Addr) (H : Hp) (Q : γ → Hp → Prop) (E : XK) : Res β → Prop
  | .stuck => False
  | .ok b ω' => ∀ v G' α' H', Ext G α H G' α' H' → Own K mg G' α' ω' H' → R G' α' H' b v → Q v H'
  | .exc x ω' => ∀ c dd G' α' H', Ext G α H G' α' H' → Own K mg G' α' ω' H' → RepX K mg G' x c dd → E c dd H'
def RD : Hp → List Addr → Hp → D → V → Prop := fun G _ _ d v => Rep K mg G d v
def RS : Hp → List Addr → Hp → SV → V → Prop := fun G α _ x v => RepV K mg G α x v
def RL : Hp → List Addr → Hp → List D → V → Prop := fun G _ H ds v => ∃ a vs, v = .ref a ∧ SqL K H a vs ∧ Reps K mg G ds vs
def RB : Hp → List Addr → Hp → Bool → Bool → Prop := fun _ _ _ b c => b = c
def RA : Hp → List Addr → Hp → List SV → List V → Prop := fun G α _ xs vs => RepVs K mg G α xs vs
end
section
variable {K : PySem.W.Frag} {mg : MG} {β γ β2 γ2 : Type} {R : Hp → List Addr → Hp → β → γ → Prop} {R2 : Hp → List Addr → Hp → β2 → γ2 → Prop}
  {G G1 H H1 : Hp} {α α1 : List Addr} {Q Q1 : γ → Hp → Prop} {Q2 : γ2 → Hp → Prop} {E : XK} {ω : Om}
theorem Post.weak {r : Res β} (e : Ext G α H G1 α1 H1) (h : Post K mg R G α H Q E r) : Post K mg R G1 α1 H1 Q E r := by
  cases r with
  | stuck => exact h
  | ok b ω' => exact fun v G' α' H' e' O q => h v G' α' H' (e.trans e') O q
  | exc x ω' => exact fun c dd G' α' H' e' O q => h c dd G' α' H' (e.trans e') O q
theorem Post.step {t : (γ → Hp → Prop) → Prop} {r : Res β} {g : β → Om → Res β2} (J : ∀ Q, Post K mg R G α H Q E r → t Q) (h : Post K mg R2 G α H Q2 E (r.bind g))
    (k : ∀ b ω1 v G' α' H', Ext G α H G' α' H' → Own K mg G' α' ω1 H' → R G' α' H' b v → Post K mg R2 G' α' H' Q2 E (g b ω1) → Q1 v H') : t Q1 := by
  cases r with
  | stuck => exact h.elim
  | ok b ω' => exact J Q1 fun v G' α' H' e O q => k b ω' v G' α' H' e O q (h.weak e)
  | exc x ω' => exact J Q1 h
theorem Post.grow {b : β} {v : γ} (O : Own K mg G α ω H) (g : Grow G H G1 H1) (q : R G1 α H1 b v) (h : Post K mg R G α H Q E (.ok b ω)) : Q v H1 :=
  h v G1 α H1 g.ext (O.grow g) q
theorem Post.here {b : β} {v : γ} (O : Own K mg G α ω H) (q : R G α H b v) (h : Post K mg R G α H Q E (.ok b ω)) : Q v H :=
  h v G α H Ext.refl O q
theorem Post.lift {o : Option β} (h : Post K mg R G α H Q E (Res.lift o ω)) : ∃ b, o = some b ∧ Post K mg R G α H Q E (.ok b ω) := by
  cases o with
  | none => exact h.elim
  | some b => exact ⟨b, rfl, h⟩
end
abbrev FE (β : Type) := Rho → Om → Res β
def Je {β : Type} (R : PySem.W.Frag → MG → Hp → List Addr → Hp → β → V → Prop) (X : Cx) (W : WX) (e : Expr) (f : FE β) : Prop :=
  ∃ t, PE X e t ∧ ∀ G α ρ ω σ H Q, Own X.K X.mg G α ω H → Slots X.K X.mg G α ρ σ → Post X.K X.mg (R X.K X.mg) G α H Q (fun c d H' => W c d σ H') (f ρ ω) → t σ H Q
abbrev De (X : Cx) (W : WX) (e : Expr) (f : FE D) : Prop := Je RD X W e f
abbrev Dv (X : Cx) (W : WX) (e : Expr) (f : FE SV) : Prop := Je RS X W e f
abbrev Dl (X : Cx) (W : WX) (e : Expr) (f : FE (List D)) : Prop := Je RL X W e f
def Dt (X : Cx) (W : WX) (e : Expr) (f : FE Bool) : Prop :=
  ∃ t, PT X e t ∧ ∀ G α ρ ω σ H Q, Own X.K X.mg G α ω H → Slots X.K X.mg G α ρ σ → Post X.K X.mg RB G α H Q (fun c d H' => W c d σ H') (f ρ ω) → t σ H Q
def Dw (X : Cx) (W : WX) (e : Expr) (f : FE Bool) : Prop :=
  ∃ t, PW X e t ∧ ∀ G α ρ ω σ H Q, Own X.K X.mg G α ω H → Slots X.K X.mg G α ρ σ → Post X.K X.mg RB G α H Q (fun c d H' => W c d σ H') (f ρ ω) → t σ H Q
def Da (X : Cx) (W : WX) (es : List Expr) (f : FE (List SV)) : Prop :=
  ∃ t, PA X es t ∧ ∀ G α ρ ω σ H Q, Own X.K X.mg G α ω H → Slots X.K X.mg G α ρ σ → Post X.K X.mg (RA X.K X.mg) G α H Q (fun c d H' => W c d σ H') (f ρ ω) → t σ H Q
def eC (d : D) : FE D := fun _ ω => .ok d ω
def eVar (i : Nat) : FE D := fun ρ ω => match ρ[i]? with
  | some (some (.val d)) => .ok d ω
  | _ => .stuck
def eSlot (i : Nat) : FE SV := fun ρ ω => match ρ[i]? with
  | some (some x) => .ok x ω
  | _ => .stuck
def eOwnL (i : Nat) : FE (List D) := fun ρ ω => match ρ[i]? with
  | some (some (.own k)) => match ω[k]? with
    | some (some (.lst ds)) => .ok ds ω
    | _ => .stuck
  | _ => .stuck
section
variable {X : Cx} {W : WX} {a b c e : Expr} {pos : Pos}
theorem de_of {v : V} {d : D} (h : PE X e (tC v)) (r : ∀ G, Rep X.K X.mg G d v) : De X W e (eC d) :=
  ⟨_, h, fun G α ρ ω σ H Q O S P => Post.here O (r G) P⟩
theorem de_int {i : Int} {j} : De X W (.Constant (.int i) j pos) (eC (.int i)) := de_of pe_int fun _ => rep_int.mpr rfl
theorem de_bl {b : Bool} {j} : De X W (.Constant (.bool b) j pos) (eC (.bl b)) := de_of pe_bl fun _ => rep_bl.mpr rfl
theorem de_non {j} : De X W (.Constant .none j pos) (eC .non) := de_of pe_non fun _ => rep_non.mpr rfl
theorem de_str {x : Str} {j} : De X W (.Constant (.str x) j pos) (eC (.str x)) := de_of pe_str fun _ => rep_str.mpr rfl
theorem de_globI {x : Str} {i : Int} {t : Tok} (hm : X.mg x = some (.int i t)) (hg : Gl X x := by rfl) (hd : (x == ("__debug__" : Str)) = false := by decide) : De X W (.Name x pos) (eC (.int i)) :=
  de_of (pe_glob (v := .int i) hg hm ⟨t, rfl⟩ hd) fun _ => rep_int.mpr rfl
theorem dv_var (i : Nat) {x : Str} (hN : X.N[i]? = some x := by rfl) (hv : Vis X.env.scope x := by first | exact Or.inl rfl | exact Or.inr (Or.inl rfl) | exact Or.inr (Or.inr rfl)) (hd : (x == ("__debug__" : Str)) = false := by decide)
    (hcd : (x == ("__classdict__" : Str)) = false := by decide) : Dv X W (.Name x pos) (eSlot i) := by
  refine ⟨_, pe_var hN hv hd hcd, fun G α ρ ω σ H Q O S P => ?_⟩
  unfold eSlot at P
  split at P
  · rename_i y hy
    obtain ⟨v, h1, h2⟩ := S.val i y hy
    exact ⟨v, h1, Post.here O h2 P⟩
  · exact P.elim
theorem de_var (i : Nat) {x : Str} (hN : X.N[i]? = some x := by rfl) (hv : Vis X.env.scope x := by first | exact Or.inl rfl | exact Or.inr (Or.inl rfl) | exact Or.inr (Or.inr rfl)) (hd : (x == ("__debug__" : Str)) = false := by decide)
    (hcd : (x == ("__classdict__" : Str)) = false := by decide) : De X W (.Name x pos) (eVar i) := by
  refine ⟨_, pe_var hN hv hd hcd, fun G α ρ ω σ H Q O S P => ?_⟩
  unfold eVar at P
  split at P
  · rename_i y hy
    obtain ⟨v, h1, h2⟩ := S.val i _ hy
    exact ⟨v, h1, Post.here O h2 P⟩
  · exact P.elim
theorem dl_var (i : Nat) {x : Str} (hN : X.N[i]? = some x := by rfl) (hv : Vis X.env.scope x := by first | exact Or.inl rfl | exact Or.inr (Or.inl rfl) | exact Or.inr (Or.inr rfl)) (hd : (x == ("__debug__" : Str)) = false := by decide)
    (hcd : (x == ("__classdict__" : Str)) = false := by decide) : Dl X W (.Name x pos) (eOwnL i) := by
  refine ⟨_, pe_var hN hv hd hcd, fun G α ρ ω σ H Q O S P => ?_⟩
  unfold eOwnL at P
  split at P
  · rename_i k hk
    split at P
    · rename_i ds hds
      obtain ⟨v, h1, a, h2, rfl⟩ := S.val i _ hk
      obtain ⟨_, vs, h3, h4⟩ := O.obj k _ a hds h2
      exact ⟨_, h1, Post.here O ⟨a, vs, rfl, SqL.of h3, h4⟩ P⟩
    · exact P.elim
  · exact P.elim
def asLst : D → Option (List D)
  | .lst ds => some ds
  | _ => none
def eLst (f : FE D) : FE (List D) := fun ρ ω => (f ρ ω).bind fun d ω1 => Res.lift (asLst d) ω1
theorem dl_of {f : FE D} (h : De X W e f) : Dl X W e (eLst f) := by
  obtain ⟨t, p, j⟩ := h
  refine ⟨t, p, fun G α ρ ω σ H Q O S P => ?_⟩
  refine Post.step (t := t σ H) (j G α ρ ω σ H · O S) P fun d ω1 v G1 α1 H1 e1 O1 r1 P1 => ?_
  obtain ⟨ds, e2, P2⟩ := P1.lift
  cases d with
  | lst ds' =>
    cases e2
    have r1' : Rep X.K X.mg G1 (.lst ds) v := r1
    rw [rep_lst] at r1'
    obtain ⟨a, vs, e3, q, r⟩ := r1'
    exact Post.here O1 ⟨a, vs, e3, O1.sub.seq q, r⟩ P2
  | _ => cases e2
def Bop (K : PySem.W.Frag) (mg : MG) (r : R2) (op : D → D → Option D) : Prop :=
  ∀ G H x y d v1 v2 Q, Same G H → op x y = some d → Rep K mg G x v1 → Rep K mg G y v2 → (∀ v G' H', Grow G H G' H' → Rep K mg G' d v → Q v H') → r v1 v2 H Q
def eBin (op : D → D → Option D) (f g : FE D) : FE D := fun ρ ω => (f ρ ω).bind fun x ω1 => (g ρ ω1).bind fun y ω2 => Res.lift (op x y) ω2
theorem bin_post {r : R2} {op : D → D → Option D} {K : PySem.W.Frag} {mg : MG} {G H : Hp} {α : List Addr} {ω : Om} {Q : VK} {E : XK} {x y : D} {v1 v2 : V} (B : Bop K mg r op) (O : Own K mg G α ω H) (r1 : Rep K mg G x v1) (r2 : Rep K mg G y v2)
    (P : Post K mg (RD K mg) G α H Q E (Res.lift (op x y) ω)) : r v1 v2 H Q := by
  obtain ⟨d, e, P⟩ := P.lift
  exact B G H x y d v1 v2 Q O.sub e r1 r2 fun v G' H' g q => Post.grow O g q P
theorem tOp_post {r : R2} {op : D → D → Option D} {f g : FE D} {ta tb : TE} {K : PySem.W.Frag} {mg : MG} (B : Bop K mg r op)
    (ja : ∀ G α ρ ω σ H Q, Own K mg G α ω H → Slots K mg G α ρ σ → Post K mg (RD K mg) G α H Q (fun c d H' => W c d σ H') (f ρ ω) → ta σ H Q)
    (jb : ∀ G α ρ ω σ H Q, Own K mg G α ω H → Slots K mg G α ρ σ → Post K mg (RD K mg) G α H Q (fun c d H' => W c d σ H') (g ρ ω) → tb σ H Q)
    (G α ρ ω σ H Q) (O : Own K mg G α ω H) (S : Slots K mg G α ρ σ) (P : Post K mg (RD K mg) G α H Q (fun c d H' => W c d σ H') (eBin op f g ρ ω)) : tOp r ta tb σ H Q := by
  refine Post.step (t := ta σ H) (ja G α ρ ω σ H · O S) P fun x ω1 v1 G1 α1 H1 e1 O1 r1 P1 => ?_
  refine Post.step (t := tb σ H1) (jb G1 α1 ρ ω1 σ H1 · O1 (S.mono e1)) P1 fun y ω2 v2 G2 α2 H2 e2 O2 r2 P2 => ?_
  exact bin_post B O2 (Rep.mono e2.g _ _ r1) r2 P2
theorem de_bin {o : Operator} {r : R2} {op : D → D → Option D} {f g : FE D} (ho : OpR X (binaryOp o) r) (B : Bop X.K X.mg r op) (ja : De X W a f) (jb : De X W b g) : De X W (.BinOp a o b pos) (eBin op f g) := by
  obtain ⟨ta, pa, ka⟩ := ja
  obtain ⟨tb, pb, kb⟩ := jb
  exact ⟨_, pe_op ho pa pb, tOp_post B ka kb⟩
theorem de_cmp {o : CmpOp} {r : R2} {op : D → D → Option D} {f g : FE D} (ho : OpR X (compareOp o) r) (B : Bop X.K X.mg r op) (ja : De X W a f) (jb : De X W b g) (hm : behindInMarks o b = false := by first | exact nomark _ | rfl) : De X W (.Compare a [o] [b] pos) (eBin op f g) := by
  obtain ⟨ta, pa, ka⟩ := ja
  obtain ⟨tb, pb, kb⟩ := jb
  exact ⟨_, pe_cmpR ho pa pb hm, tOp_post B ka kb⟩
theorem de_ix {r : R2} {op : D → D → Option D} {f g : FE D} (ho : IxR X r) (B : Bop X.K X.mg r op) (ja : De X W a f) (jb : De X W b g) (hs : PlainIx b := by exact fun _ _ => rfl) : De X W (.Subscript a b pos) (eBin op f g) := by
  obtain ⟨ta, pa, ka⟩ := ja
  obtain ⟨tb, pb, kb⟩ := jb
  exact ⟨_, pe_ix ho pa pb hs, tOp_post B ka kb⟩
def asBl : D → Option Bool
  | .bl b => some b
  | _ => none
def eTest (f : FE D) : FE Bool := fun ρ ω => (f ρ ω).bind fun d ω1 => Res.lift (asBl d) ω1
theorem test_post {t : TE} {f : FE D} {K : PySem.W.Frag} {mg : MG} (j : ∀ G α ρ ω σ H Q, Own K mg G α ω H → Slots K mg G α ρ σ → Post K mg (RD K mg) G α H Q (fun c d H' => W c d σ H') (f ρ ω) → t σ H Q)
    (G α ρ ω σ H Q) (O : Own K mg G α ω H) (S : Slots K mg G α ρ σ) (P : Post K mg RB G α H Q (fun c d H' => W c d σ H') (eTest f ρ ω)) : t σ H fun x H' => ∃ k, x = .bl k ∧ Q k H' := by
  refine Post.step (t := t σ H) (j G α ρ ω σ H · O S) P fun x ω1 v1 G1 α1 H1 e1 O1 r1 P1 => ?_
  obtain ⟨k, e2, P2⟩ := P1.lift
  cases x with
  | bl k' =>
    cases e2
    have r1' : Rep K mg G1 (.bl k) v1 := r1
    rw [rep_bl] at r1'
    exact ⟨k, r1', Post.here O1 rfl P2⟩
  | _ => cases e2
theorem dt_cmp {o : CmpOp} {r : R2} {op : D → D → Option D} {f g : FE D} (ho : OpR X (compareOp o) r) (B : Bop X.K X.mg r op) (ja : De X W a f) (jb : De X W b g) (hm : behindInMarks o b = false := by first | exact nomark _ | rfl) : Dt X W (.Compare a [o] [b] pos) (eTest (eBin op f g)) := by
  obtain ⟨ta, pa, ka⟩ := ja
  obtain ⟨tb, pb, kb⟩ := jb
  exact ⟨_, pt_cmpR ho pa pb hm, test_post (tOp_post B ka kb)⟩
theorem dt_val {f : FE D} (j : De X W e f) (he : ∀ whole, isTrue e X.env whole = (do let v ← whole; standAt e.pos; holding [v] (truthy v)) := by intro _; rfl) : Dt X W e (eTest f) := by
  obtain ⟨t, p, k⟩ := j
  exact ⟨_, pt_val p he, test_post k⟩
def eAndT (f g : FE Bool) : FE Bool := fun ρ ω => (f ρ ω).bind fun c ω1 => if c = true then g ρ ω1 else .ok false ω1
def eOrT (f g : FE Bool) : FE Bool := fun ρ ω => (f ρ ω).bind fun c ω1 => if c = true then .ok true ω1 else g ρ ω1
def eNotT (f : FE Bool) : FE Bool := fun ρ ω => (f ρ ω).bind fun c ω1 => .ok (!c) ω1
variable {rest : List Expr}
theorem dw_and1 {f : FE Bool} (h : Dt X W a f) : Dw X W (.BoolOp .And [a] pos) f := let ⟨t, p, k⟩ := h; ⟨t, pw_and1 p, k⟩
theorem dw_or1 {f : FE Bool} (h : Dt X W a f) : Dw X W (.BoolOp .Or [a] pos) f := let ⟨t, p, k⟩ := h; ⟨t, pw_or1 p, k⟩
theorem dw_and {f g : FE Bool} (h : Dt X W a f) (h2 : Dw X W (.BoolOp .And (b :: rest) pos) g) : Dw X W (.BoolOp .And (a :: b :: rest) pos) (eAndT f g) := by
  obtain ⟨ta, pa, ka⟩ := h
  obtain ⟨tb, pb, kb⟩ := h2
  refine ⟨_, pw_and pa pb, fun G α ρ ω σ H Q O S P => ?_⟩
  refine Post.step (t := ta σ H) (ka G α ρ ω σ H · O S) P fun x ω1 v1 G1 α1 H1 e1 O1 r1 P1 => ?_
  cases r1
  cases x with
  | true => exact iteT (kb G1 α1 ρ ω1 σ H1 Q O1 (S.mono e1) P1)
  | false => exact iteF (Post.here O1 rfl P1)
theorem dw_or {f g : FE Bool} (h : Dt X W a f) (h2 : Dw X W (.BoolOp .Or (b :: rest) pos) g) : Dw X W (.BoolOp .Or (a :: b :: rest) pos) (eOrT f g) := by
  obtain ⟨ta, pa, ka⟩ := h
  obtain ⟨tb, pb, kb⟩ := h2
  refine ⟨_, pw_or pa pb, fun G α ρ ω σ H Q O S P => ?_⟩
  refine Post.step (t := ta σ H) (ka G α ρ ω σ H · O S) P fun x ω1 v1 G1 α1 H1 e1 O1 r1 P1 => ?_
  cases r1
  cases x with
  | true => exact iteT (Post.here O1 rfl P1)
  | false => exact iteF (kb G1 α1 ρ ω1 σ H1 Q O1 (S.mono e1) P1)
theorem dt_w {f : FE Bool} (h : Dw X W e f) : Dt X W e f := let ⟨t, p, k⟩ := h; ⟨t, p.pt, k⟩
theorem dt_not {f : FE Bool} (h : Dt X W a f) : Dt X W (.UnaryOp .Not a pos) (eNotT f) := by
  obtain ⟨ta, pa, ka⟩ := h
  refine ⟨_, pt_not pa, fun G α ρ ω σ H Q O S P => ?_⟩
  refine Post.step (t := ta σ H) (ka G α ρ ω σ H · O S) P fun x ω1 v1 G1 α1 H1 e1 O1 r1 P1 => ?_
  cases r1
  exact Post.here O1 rfl P1
def eAnd (f g : FE D) : FE D := fun ρ ω => (eTest f ρ ω).bind fun c ω1 => if c = true then g ρ ω1 else .ok (.bl false) ω1
def eOr (f g : FE D) : FE D := fun ρ ω => (eTest f ρ ω).bind fun c ω1 => if c = true then .ok (.bl true) ω1 else g ρ ω1
def eNot (f : FE D) : FE D := fun ρ ω => (eTest f ρ ω).bind fun c ω1 => .ok (.bl (!c)) ω1
theorem de_one {op} {f : FE D} (h : De X W a f) : De X W (.BoolOp op [a] pos) f := let ⟨t, p, k⟩ := h; ⟨t, pe_one p, k⟩
theorem de_and {f g : FE D} (h : De X W a f) (h2 : De X W (.BoolOp .And (b :: rest) pos) g) : De X W (.BoolOp .And (a :: b :: rest) pos) (eAnd f g) := by
  obtain ⟨ta, pa, ka⟩ := h
  obtain ⟨tb, pb, kb⟩ := h2
  refine ⟨_, pe_and pa pb, fun G α ρ ω σ H Q O S P => ?_⟩
  refine Post.step (t := fun Q => ta σ H fun x H' => ∃ k, x = .bl k ∧ Q k H') (Q1 := fun c H1 => if c = true then tb σ H1 Q else Q (.bl false) H1) (test_post ka G α ρ ω σ H · O S) P ?_
  intro x ω1 v1 G1 α1 H1 e1 O1 r1 P1
  cases r1
  cases x with
  | true => exact iteT (kb G1 α1 ρ ω1 σ H1 Q O1 (S.mono e1) P1)
  | false => exact iteF (Post.here O1 (rep_bl.mpr rfl) P1)
theorem de_not {f : FE D} (h : De X W a f) : De X W (.UnaryOp .Not a pos) (eNot f) := by
  obtain ⟨ta, pa, ka⟩ := h
  refine ⟨_, pe_not pa, fun G α ρ ω σ H Q O S P => ?_⟩
  refine Post.step (t := fun Q => ta σ H fun x H' => ∃ k, x = .bl k ∧ Q k H') (Q1 := fun c H1 => Q (.bl (!c)) H1) (test_post ka G α ρ ω σ H · O S) P ?_
  intro x ω1 v1 G1 α1 H1 e1 O1 r1 P1
  cases r1
  exact Post.here O1 (rep_bl.mpr rfl) P1
def eIf (c : FE Bool) (f g : FE D) : FE D := fun ρ ω => (c ρ ω).bind fun b ω1 => if b = true then f ρ ω1 else g ρ ω1
theorem de_if {fc : FE Bool} {f g : FE D} (hc : Dt X W c fc) (h : De X W a f) (h2 : De X W b g) : De X W (.IfExp c a b pos) (eIf fc f g) := by
  obtain ⟨tc, pc, kc⟩ := hc
  obtain ⟨ta, pa, ka⟩ := h
  obtain ⟨tb, pb, kb⟩ := h2
  refine ⟨_, pe_ifExp pc pa pb, fun G α ρ ω σ H Q O S P => ?_⟩
  refine Post.step (t := tc σ H) (kc G α ρ ω σ H · O S) P fun x ω1 v1 G1 α1 H1 e1 O1 r1 P1 => ?_
  cases r1
  cases x with
  | true => exact iteT (ka G1 α1 ρ ω1 σ H1 Q O1 (S.mono e1) P1)
  | false => exact iteF (kb G1 α1 ρ ω1 σ H1 Q O1 (S.mono e1) P1)
def aNil : FE (List SV) := fun _ ω => .ok [] ω
def aCons (f : FE SV) (g : FE (List SV)) : FE (List SV) := fun ρ ω => (f ρ ω).bind fun x ω1 => (g ρ ω1).bind fun xs ω2 => .ok (x :: xs) ω2
def aVal (f : FE D) : FE SV := fun ρ ω => (f ρ ω).bind fun d ω1 => .ok (.val d) ω1
theorem dv_of {f : FE D} (h : De X W e f) : Dv X W e (aVal f) := by
  obtain ⟨t, p, j⟩ := h
  refine ⟨t, p, fun G α ρ ω σ H Q O S P => ?_⟩
  exact Post.step (t := t σ H) (j G α ρ ω σ H · O S) P fun d ω1 v G1 α1 H1 e1 O1 r1 P1 => Post.here (R := RS X.K X.mg) (b := SV.val d) O1 r1 P1
theorem da_nil : Da X W [] aNil := ⟨_, pa_nil, fun G α ρ ω σ H Q O S P => Post.here O .nil P⟩
theorem da_cons {es : List Expr} {f : FE SV} {g : FE (List SV)} (h : Dv X W e f) (h2 : Da X W es g) (hs : starEach (e :: es) X.env = (false, eval e X.env) :: starEach es X.env := by rfl) : Da X W (e :: es) (aCons f g) := by
  obtain ⟨ta, pa, ka⟩ := h
  obtain ⟨tb, pb, kb⟩ := h2
  refine ⟨_, pa_cons pa pb hs, fun G α ρ ω σ H Q O S P => ?_⟩
  refine Post.step (t := ta σ H) (ka G α ρ ω σ H · O S) P fun x ω1 v1 G1 α1 H1 e1 O1 r1 P1 => ?_
  refine Post.step (t := tb σ H1) (kb G1 α1 ρ ω1 σ H1 · O1 (S.mono e1)) P1 fun y ω2 v2 G2 α2 H2 e2 O2 r2 P2 => ?_
  exact Post.here O2 (.cons (r1.mono e2.g e2.pre') r2) P2
theorem da_val {es : List Expr} {f : FE D} {g : FE (List SV)} (h : De X W e f) (h2 : Da X W es g) (hs : starEach (e :: es) X.env = (false, eval e X.env) :: starEach es X.env := by rfl) : Da X W (e :: es) (aCons (aVal f) g) := da_cons (dv_of h) h2 hs
def allD : List SV → Option (List D)
  | [] => some []
  | .val d :: xs => (allD xs).map (d :: ·)
  | .own _ :: _ => none
  | .exc _ :: _ => none
  | .lk _ :: _ => none
  | .ans _ _ :: _ => none
theorem allD_reps {K : PySem.W.Frag} {mg : MG} {G : Hp} {α : List Addr} : ∀ {xs : List SV} {ds : List D} {vs : List V}, allD xs = some ds → RepVs K mg G α xs vs → Reps K mg G ds vs
  | [], ds, _, e, .nil => by cases e; rw [reps_nil]
  | .val d :: xs, ds, _, e, .cons h t => by
    unfold allD at e
    cases q : allD xs with
    | none => rw [q] at e; cases e
    | some es =>
      rw [q] at e
      cases e
      rw [reps_cons]
      exact ⟨_, _, rfl, h, allD_reps q t⟩
  | .own k :: xs, ds, _, e, _ => by cases e
  | .exc k :: xs, ds, _, e, _ => by cases e
  | .lk k :: xs, ds, _, e, _ => by cases e
  | .ans _ _ :: xs, ds, _, e, _ => by cases e
abbrev lim : Nat := 16777216
theorem lim_eq : sizeLine = lim := sizeLine_eq
def eTup (g : FE (List SV)) : FE D := fun ρ ω => (g ρ ω).bind fun xs ω1 => Res.lift (if xs.length ≤ lim then (allD xs).map D.tup else none) ω1
def eList (g : FE (List SV)) : FE D := fun ρ ω => (g ρ ω).bind fun xs ω1 => Res.lift (if xs.length ≤ lim then (allD xs).map D.lst else none) ω1
theorem RepVs.length {K : PySem.W.Frag} {mg : MG} {G : Hp} {α : List Addr} : ∀ {xs : List SV} {vs : List V}, RepVs K mg G α xs vs → xs.length = vs.length := fun h => Paired.length h
theorem rep_newT {K : PySem.W.Frag} {mg : MG} {G H : Hp} {p : Addr} {ds : List D} {vs : List V} (hp : G p = none) (r : Reps K mg G ds vs) : Rep K mg (L2.upd G p (.tup vs)) (.tup ds) (.ref p) :=
  rep_tup.mpr ⟨p, vs, rfl, SqT.of upd_same, Reps.mono (Same.upd hp) _ _ r⟩
theorem rep_newL {K : PySem.W.Frag} {mg : MG} {G H : Hp} {p : Addr} {ds : List D} {vs : List V} (hp : G p = none) (r : Reps K mg G ds vs) : Rep K mg (L2.upd G p (.lst vs)) (.lst ds) (.ref p) :=
  rep_lst.mpr ⟨p, vs, rfl, SqL.of upd_same, Reps.mono (Same.upd hp) _ _ r⟩
theorem de_tup {es : List Expr} {x1} {g : FE (List SV)} (h : Da X W es g) : De X W (.Tuple es x1 pos) (eTup g) := by
  obtain ⟨t, p, k⟩ := h
  refine ⟨_, pe_tup p, fun G α ρ ω σ H Q O S P => ?_⟩
  refine Post.step (t := t σ H) (k G α ρ ω σ H · O S) P fun xs ω1 vs G1 α1 H1 e1 O1 r1 P1 => ?_
  obtain ⟨d, e2, P2⟩ := P1.lift
  split at e2
  · rename_i hl
    cases q : allD xs with
    | none => rw [q] at e2; cases e2
    | some ds =>
      rw [q] at e2; cases e2
      have hr := allD_reps q r1
      refine ⟨by rw [lim_eq, ← RepVs.length r1]; exact hl, fun p hp => ?_⟩
      exact Post.grow O1 (Grow.put O1.sub hp) (rep_newT (H := H1) (O1.sub.free hp) hr) P2
  · cases e2
theorem de_lst {es : List Expr} {g : FE (List SV)} (h : Da X W es g) : De X W (.List es pos) (eList g) := by
  obtain ⟨t, p, k⟩ := h
  refine ⟨_, pe_lst p, fun G α ρ ω σ H Q O S P => ?_⟩
  refine Post.step (t := t σ H) (k G α ρ ω σ H · O S) P fun xs ω1 vs G1 α1 H1 e1 O1 r1 P1 => ?_
  obtain ⟨d, e2, P2⟩ := P1.lift
  split at e2
  · rename_i hl
    cases q : allD xs with
    | none => rw [q] at e2; cases e2
    | some ds =>
      rw [q] at e2; cases e2
      have hr := allD_reps q r1
      refine ⟨by rw [lim_eq, ← RepVs.length r1]; exact hl, fun p hp => ?_⟩
      exact Post.grow O1 (Grow.put O1.sub hp) (rep_newL (H := H1) (O1.sub.free hp) hr) P2
  · cases e2
end
end Dl
namespace Dl
open PySem L2
mutual
def toPy : D → Option PyData
  | .non => some .none
  | .bl b => some (.bool b)
  | .int i => some (.int i)
  | .str x => some (.str x)
  | .tup ds => (toPys ds).map .tuple
  | .lst ds => (toPys ds).map .list
  | _ => none
def toPys : List D → Option (List PyData)
  | [] => some []
  | d :: ds => match toPy d with
    | some p => (toPys ds).map (p :: ·)
    | none => none
end
section
variable {K : PySem.W.Frag} {mg : MG} {G H : Hp}
mutual
theorem dp_of (s : Same G H) : ∀ (d : D) (p : PyData) (v : V), toPy d = some p → Rep K mg G d v → Dp K H v p
  | .non, p, v, e, r => by
    unfold toPy at e; cases e; rw [rep_non] at r; subst r; exact .non
  | .bl b, p, v, e, r => by
    unfold toPy at e; cases e; rw [rep_bl] at r; subst r; exact .bl b
  | .int b, p, v, e, r => by
    unfold toPy at e; cases e; rw [rep_int] at r; subst r; exact .int b
  | .str b, p, v, e, r => by
    unfold toPy at e; cases e; rw [rep_str] at r; subst r; exact .str b
  | .tup ds, p, v, e, r => by
    unfold toPy at e
    cases q : toPys ds with
    | none => rw [q] at e; cases e
    | some ps =>
      rw [q] at e; cases e
      rw [rep_tup] at r
      obtain ⟨a, vs, rfl, h1, h2⟩ := r
      exact .tup (Same.sqT s h1) (dps_of s ds ps vs q h2)
  | .lst ds, p, v, e, r => by
    unfold toPy at e
    cases q : toPys ds with
    | none => rw [q] at e; cases e
    | some ps =>
      rw [q] at e; cases e
      rw [rep_lst] at r
      obtain ⟨a, vs, rfl, h1, h2⟩ := r
      exact .lst (s.seq h1) (dps_of s ds ps vs q h2)
  | .obj _ _, p, v, e, r => by unfold toPy at e; cases e
  | .dcK _, p, v, e, r => by unfold toPy at e; cases e
  | .dcN _, p, v, e, r => by unfold toPy at e; cases e
theorem dps_of (s : Same G H) : ∀ (ds : List D) (ps : List PyData) (vs : List V), toPys ds = some ps → Reps K mg G ds vs → DpAll K H vs ps
  | [], ps, vs, e, r => by
    unfold toPys at e; cases e; rw [reps_nil] at r; subst r; exact .nil
  | d :: ds, ps, vs, e, r => by
    unfold toPys at e
    cases q : toPy d with
    | none => rw [q] at e; cases e
    | some p =>
      rw [q] at e
      cases q2 : toPys ds with
      | none => rw [q2] at e; cases e
      | some ps' =>
        rw [q2] at e; cases e
        rw [reps_cons] at r
        obtain ⟨v, rr, rfl, h1, h2⟩ := r
        exact .cons (dp_of s d p v q h1) (dps_of s ds ps' rr q2 h2)
end
end
def eqD (x y : D) : Option Bool := match toPy x, toPy y with
  | some p, some q => if SeqAt.shaped p && SeqAt.shaped q then some (PyData.eqv p q) else none
  | _, _ => none
def opEq (x y : D) : Option D := (eqD x y).map D.bl
def opNe (x y : D) : Option D := (eqD x y).map fun b => D.bl (!b)
def opAdd : D → D → Option D
  | .int i, .int j => some (.int (i + j))
  | .tup a, .tup b => if a.length + b.length ≤ lim then some (.tup (a ++ b)) else none
  | .str a, .str b => if a.length + b.length ≤ lim then some (.str (a ++ b)) else none
  | .lst a, .lst b => if a.length + b.length ≤ lim then some (.lst (a ++ b)) else none
  | _, _ => none
def opI (p : Int → Int → Option Int) : D → D → Option D
  | .int i, .int j => (p i j).map D.int
  | _, _ => none
def opB (p : Int → Int → Bool) : D → D → Option D
  | .int i, .int j => some (.bl (p i j))
  | _, _ => none
abbrev opSub : D → D → Option D := opI fun i j => some (i - j)
abbrev bnd : Int := 18446744073709551616
abbrev opMul : D → D → Option D := opI fun i j => if (-bnd < i ∧ i < bnd) ∨ (-bnd < j ∧ j < bnd) then some (i * j) else none
abbrev opMod : D → D → Option D := opI fun i j => if 0 < j then some (i % j) else none
abbrev opDiv : D → D → Option D := opI fun i j => if 0 < j ∧ j < 1073741824 then some (i / j) else none
abbrev opPow : D → D → Option D := opI fun i j => if 0 ≤ j ∧ j ≤ 1000000 ∧ i.natAbs < 18446744073709551616 then some (i ^ j.toNat) else none
abbrev opLt : D → D → Option D := opB fun i j => decide (i < j)
abbrev opLe : D → D → Option D := opB fun i j => decide (i ≤ j)
abbrev opGt : D → D → Option D := opB fun i j => decide (j < i)
abbrev opGe : D → D → Option D := opB fun i j => decide (j ≤ i)
def isNon : D → Bool
  | .non => true
  | _ => false
def opIsN (x y : D) : Option D := if isNon y then some (.bl (isNon x)) else none
def opNotN (x y : D) : Option D := if isNon y then some (.bl (!isNon x)) else none
def opIx : D → D → Option D
  | .tup ds, .int i => atI ds i
  | .lst ds, .int i => atI ds i
  | _, _ => none
def toV : D → Option V
  | .non => some .non
  | .bl b => some (.bl b)
  | .int i => some (.int i)
  | .str x => some (.str x)
  | _ => none
def toVs : List D → Option (List V)
  | [] => some []
  | d :: ds => match toV d with
    | some v => (toVs ds).map (v :: ·)
    | none => none
def opInL (neg : Bool) (x : D) (ys : List D) : Option D := match toV x, toVs ys with
  | some v, some vs => some (.bl (if neg then !inV v vs else inV v vs))
  | _, _ => none
def opIn (neg : Bool) (x y : D) : Option D := match y with
  | .tup ys => opInL neg x ys
  | .lst ys => opInL neg x ys
  | _ => none
section
variable {K : PySem.W.Frag} {mg : MG} {G H : Hp} {X : Cx}
theorem bop_eq : Bop K mg (rEqD K) opEq := by
  intro G H x y d v1 v2 Q s e r1 r2 k
  unfold opEq eqD at e
  split at e
  · rename_i p q hp hq
    split at e
    · rename_i hs
      rw [Bool.and_eq_true] at hs
      cases e
      exact ⟨p, q, dp_of s _ _ _ hp r1, dp_of s _ _ _ hq r2, hs.1, hs.2, k _ G H (Grow.refl s) (rep_bl.mpr rfl)⟩
    · cases e
  · cases e
theorem bop_ne : Bop K mg (rNeD K) opNe := by
  intro G H x y d v1 v2 Q s e r1 r2 k
  unfold opNe eqD at e
  split at e
  · rename_i p q hp hq
    split at e
    · rename_i hs
      rw [Bool.and_eq_true] at hs
      cases e
      exact ⟨p, q, dp_of s _ _ _ hp r1, dp_of s _ _ _ hq r2, hs.1, hs.2, k _ G H (Grow.refl s) (rep_bl.mpr rfl)⟩
    · cases e
  · cases e
theorem bopI {C : Int → Int → Prop} {g : Int → Int → Int} {p : Int → Int → Option Int} (h : ∀ i j z, p i j = some z → C i j ∧ z = g i j) : Bop K mg (rI C fun i j => .int (g i j)) (opI p) := by
  intro G H x y d v1 v2 Q s e r1 r2 k
  unfold opI at e
  split at e
  · rename_i i j
    cases q : p i j with
    | none => rw [q] at e; cases e
    | some z =>
      rw [q] at e; cases e
      obtain ⟨c, rfl⟩ := h i j z q
      exact ⟨i, j, rep_int.mp r1, rep_int.mp r2, c, k _ G H (Grow.refl s) (rep_int.mpr rfl)⟩
  · cases e
theorem bopI0 {g : Int → Int → Int} : Bop K mg (rI0 fun i j => .int (g i j)) (opI fun i j => some (g i j)) := by
  intro G H x y d v1 v2 Q s e r1 r2 k
  unfold opI at e
  split at e
  · rename_i i j
    cases e
    exact ⟨i, j, rep_int.mp r1, rep_int.mp r2, k _ G H (Grow.refl s) (rep_int.mpr rfl)⟩
  · cases e
theorem bopB0 {g : Int → Int → Bool} : Bop K mg (rI0 fun i j => .bl (g i j)) (opB g) := by
  intro G H x y d v1 v2 Q s e r1 r2 k
  unfold opB at e
  split at e
  · rename_i i j
    cases e
    exact ⟨i, j, rep_int.mp r1, rep_int.mp r2, k _ G H (Grow.refl s) (rep_bl.mpr rfl)⟩
  · cases e
theorem bop_sub : Bop K mg (rI0 fun i j => .int (i - j)) opSub := bopI0
theorem bop_mul : Bop K mg (rI CMul fun i j => .int (i * j)) opMul := bopI (g := fun i j => i * j) fun i j z h => by
  split at h
  · rename_i c; cases h; exact ⟨c, rfl⟩
  · cases h
theorem bop_mod : Bop K mg (rI (fun _ j => 0 < j) fun i j => .int (i % j)) opMod := bopI (g := fun i j => i % j) fun i j z h => by
  split at h
  · rename_i c; cases h; exact ⟨c, rfl⟩
  · cases h
theorem bop_div : Bop K mg (rI CDiv fun i j => .int (i / j)) opDiv := bopI (g := fun i j => i / j) fun i j z h => by
  split at h
  · rename_i c; cases h; exact ⟨c, rfl⟩
  · cases h
theorem bop_pow : Bop K mg (rI CPow fun i j => .int (i ^ j.toNat)) opPow := bopI (g := fun i j => i ^ j.toNat) fun i j z h => by
  split at h
  · rename_i c; cases h; exact ⟨c, rfl⟩
  · cases h
theorem bop_lt : Bop K mg (rI0 fun i j => .bl (decide (i < j))) opLt := bopB0
theorem bop_le : Bop K mg (rI0 fun i j => .bl (decide (i ≤ j))) opLe := bopB0
theorem bop_gt : Bop K mg (rI0 fun i j => .bl (decide (j < i))) opGt := bopB0
theorem bop_ge : Bop K mg (rI0 fun i j => .bl (decide (j ≤ i))) opGe := bopB0
theorem list_add_any (l : Addr) (items : Array Value) (o o2 : Obj) (n : Nat) (b : Addr) (items2 : Array Value) (n2 : Nat) (c1 : o.cls = .type "list") (d1 : o.dict = none) (e1 : o.data = .seq items n) (c2 : o2.cls = .type "list") (d2 : o2.dict = none) (e2 : o2.data = .seq items2 n2) (hc0 : items.size + items2.size ≤ sizeLine) :
    Meets (Builtin.«list.__add__» { pos := [Value.ref l, Value.ref b] }) fun x R s =>
      s.heap.get? l = some o ∧ s.heap.get? b = some o2 ∧
          R (Except.ok (Flow.ret (Value.ref s.heap.objs.size)))
            { heap := s.heap.push { cls := Value.type "list", data := Data.seq (items ++ items2) }, gens := s.gens, drawn := s.drawn, toks := s.toks, os := s.os } := by
  cases o with
  | mk cls dict data slots =>
  cases o2 with
  | mk cls2 dict2 data2 slots2 =>
  cases c1; cases d1; cases e1; cases c2; cases d2; cases e2
  refine Meets.of_wp fun prog w A R s h => ?_
  obtain ⟨hp, g, d, tk, os⟩ := s
  obtain ⟨hl, hb, h⟩ := h
  have f3 := AutoSeq1.sub_list_list
  wp_walk using AutoSeq1.wpAny_loadPart' hl, AutoSeq1.wpAny_loadPart' hb
  exact ⟨_, rfl, h⟩
theorem add_list_any {prog : Program} {w : World} {A : Around} {E : Value → Shared → Prop} {s : Shared} {l b : Addr} {items items2 : Array Value} {Q : Value → Shared → Prop} (p1 : PlainL s.heap l items) (p2 : PlainL s.heap b items2)
    (h : Q (Value.ref s.heap.objs.size) { heap := s.heap.push { cls := Value.type "list", data := Data.seq (items ++ items2) }, gens := s.gens, drawn := s.drawn, toks := s.toks, os := s.os }) (hsz : items.size + items2.size ≤ sizeLine) :
    wpAny (model prog w) A (binaryOp Operator.Add (Value.ref l) (Value.ref b)) Q E s := by
  obtain ⟨o, n, hl, c1, d1, e1⟩ := p1
  obtain ⟨o2, n2, hb, c2, d2, e2⟩ := p2
  exact concat_meets (Exists.intro o ⟨hl, c1⟩) (Exists.intro o2 ⟨hb, c2⟩) noFill_list_add seq_list_add F.slot_list_add F.entry_list_add (F.args_list_add_2 (Value.ref l) (Value.ref b)) (list_add_any l items o o2 n b items2 n2 c1 d1 e1 c2 d2 e2 hsz) ⟨hl, hb, h⟩
def rCatS (K : PySem.W.Frag) : R2 := fun x y H Q => ∃ a b xs ys, x = .ref a ∧ y = .ref b ∧ SqL K H a xs ∧ SqL K H b ys ∧ xs.length + ys.length ≤ sizeLine ∧ ∀ p, H p = none → Q (.ref p) (L2.upd H p (.lst (xs ++ ys)))
theorem op_catS : OpR X (binaryOp .Add) (rCatS X.K) := by
  intro pins s σ H x y v u Q I rx ry h
  obtain ⟨a, b, xs, ys, rfl, rfl, h1, h2, hz, q⟩ := h
  cases rx
  cases ry
  obtain ⟨i1, r1, p1, z1⟩ := Inv.list I h1
  obtain ⟨i2, r2, p2, z2⟩ := Inv.list I h2
  have l1 := r1.length
  have l2 := r2.length
  refine add_list_any p1 p2 ?_ (by simp; omega)
  rw [List.append_toArray]
  exact ⟨.ref s.heap.objs.size, _, Inv.lnew I (Vals.append r1 r2) (by rw [List.length_append]; exact hz), rfl, q _ (Inv.fresh I)⟩
def rAddA (K : PySem.W.Frag) : R2 := fun x y H Q => (rI0 (fun i j => V.int (i + j))) x y H Q ∨ rCatA K x y H Q ∨ (∃ i j, x = V.str i ∧ y = V.str j ∧ i.length + j.length ≤ sizeLine ∧ Q (.str (i ++ j)) H) ∨ rCatS K x y H Q
theorem op_addA : OpR X (binaryOp .Add) (rAddA X.K) := op_add.or (op_catA.or (op_add_str.or op_catS))
theorem bop_add : Bop K mg (rAddA K) opAdd := by
  intro G H x y d v1 v2 Q s e r1 r2 k
  unfold opAdd at e
  split at e
  · cases e
    exact .inl ⟨_, _, rep_int.mp r1, rep_int.mp r2, k _ G H (Grow.refl s) (rep_int.mpr rfl)⟩
  · rename_i a b
    split at e
    · rename_i hl
      cases e
      have q1 := r1
      have q2 := r2
      rw [rep_tup] at r1 r2
      obtain ⟨p1, vs1, e1, s1, h1⟩ := r1
      obtain ⟨p2, vs2, e2, s2, h2⟩ := r2
      refine .inr (.inl ⟨p1, p2, vs1, vs2, e1, e2, Same.sqT s s1, Same.sqT s s2, by rw [h1.length, h2.length, lim_eq]; exact hl, fun z => ?_, fun z1 z2 => ?_, fun z1 z2 p hp => ?_⟩)
      · have : a = [] := by have := h1.length; rw [z] at this; cases a with
          | nil => rfl
          | cons _ _ => simp at this
        subst this
        exact k _ G H (Grow.refl s) (by rw [← e2]; exact q2)
      · have : b = [] := by have := h2.length; rw [z2] at this; cases b with
          | nil => rfl
          | cons _ _ => simp at this
        subst this
        exact k _ G H (Grow.refl s) (by rw [← e1, List.append_nil]; exact q1)
      · exact k _ _ _ (Grow.put s hp) (rep_newT (H := H) (s.free hp) (h1.append h2))
    · cases e
  · split at e
    · rename_i hl
      cases e
      exact .inr (.inr (.inl ⟨_, _, rep_str.mp r1, rep_str.mp r2, by rw [lim_eq]; exact hl, k _ G H (Grow.refl s) (rep_str.mpr rfl)⟩))
    · cases e
  · split at e
    · rename_i hl
      cases e
      rw [rep_lst] at r1 r2
      obtain ⟨p1, vs1, e1, s1, h1⟩ := r1
      obtain ⟨p2, vs2, e2, s2, h2⟩ := r2
      refine .inr (.inr (.inr ⟨p1, p2, vs1, vs2, e1, e2, s.seq s1, s.seq s2, by rw [h1.length, h2.length, lim_eq]; exact hl, fun p hp => ?_⟩))
      exact k _ _ _ (Grow.put s hp) (rep_newL (H := H) (s.free hp) (h1.append h2))
    · cases e
  · cases e
theorem atI_reps {ds : List D} {vs : List V} {i : Int} {d : D} (r : Reps K mg G ds vs) (h : atI ds i = some d) : ∃ v, atI vs i = some v ∧ Rep K mg G d v := by
  unfold atI at h ⊢
  rw [r.length]
  cases q : ixN ds.length i with
  | none => rw [q] at h; cases h
  | some j =>
    rw [q] at h
    obtain ⟨v, h1, h2⟩ := r.get (i := j) h
    exact ⟨v, h1, h2⟩
theorem bop_ix : Bop K mg (fun x y H Q => rIxL K x y H Q ∨ rIxT K x y H Q) opIx := by
  intro G H x y d v1 v2 Q s e r1 r2 k
  unfold opIx at e
  split at e
  · rename_i ds i
    rw [rep_tup] at r1
    obtain ⟨a, vs, rfl, h1, h2⟩ := r1
    obtain ⟨v, h3, h4⟩ := atI_reps h2 e
    exact .inr ⟨a, vs, i, v, rfl, rep_int.mp r2, Same.sqT s h1, h3, k v G H (Grow.refl s) h4⟩
  · rename_i ds i
    rw [rep_lst] at r1
    obtain ⟨a, vs, rfl, h1, h2⟩ := r1
    obtain ⟨v, h3, h4⟩ := atI_reps h2 e
    exact .inl ⟨a, vs, i, v, rfl, rep_int.mp r2, s.seq h1, h3, k v G H (Grow.refl s) h4⟩
  · cases e
theorem ix_both : IxR X (fun x y H Q => rIxL X.K x y H Q ∨ rIxT X.K x y H Q) := ix_list.or ix_tup
theorem toV_rep : ∀ {d : D} {v u : V}, toV d = some u → Rep K mg G d v → v = u ∧ flatV u = true
  | .non, v, u, e, r => by cases e; exact ⟨rep_non.mp r, rfl⟩
  | .bl _, v, u, e, r => by cases e; exact ⟨rep_bl.mp r, rfl⟩
  | .int _, v, u, e, r => by cases e; exact ⟨rep_int.mp r, rfl⟩
  | .str _, v, u, e, r => by cases e; exact ⟨rep_str.mp r, rfl⟩
  | .tup _, v, u, e, r => by cases e
  | .lst _, v, u, e, r => by cases e
  | .obj _ _, v, u, e, r => by cases e
  | .dcK _, v, u, e, r => by cases e
  | .dcN _, v, u, e, r => by cases e
theorem toVs_rep : ∀ {ds : List D} {vs us : List V}, toVs ds = some us → Reps K mg G ds vs → vs = us ∧ us.all flatV = true
  | [], vs, us, e, r => by cases e; exact ⟨reps_nil.mp r, rfl⟩
  | d :: ds, vs, us, e, r => by
    unfold toVs at e
    cases q : toV d with
    | none => rw [q] at e; cases e
    | some u =>
      rw [q] at e
      cases q2 : toVs ds with
      | none => rw [q2] at e; cases e
      | some us' =>
        rw [q2] at e; cases e
        rw [reps_cons] at r
        obtain ⟨v, rr, rfl, h1, h2⟩ := r
        obtain ⟨e1, f1⟩ := toV_rep q h1
        obtain ⟨e2, f2⟩ := toVs_rep q2 h2
        exact ⟨by rw [e1, e2], by rw [List.all_cons, f1, f2]; rfl⟩
theorem inL_post {neg : Bool} {x : D} {ys : List D} {d : D} {v1 : V} {a : Addr} {vs : List V} {Q : VK} (s : Same G H) (e : opInL neg x ys = some d) (r1 : Rep K mg G x v1) (q : SqL K H a vs ∨ SqT K H a vs) (r2 : Reps K mg G ys vs)
    (k : ∀ v G' H', Grow G H G' H' → Rep K mg G' d v → Q v H') : rIn K neg v1 (.ref a) H Q := by
  unfold opInL at e
  split at e
  · rename_i u us hu hus
    cases e
    obtain ⟨e1, f1⟩ := toV_rep hu r1
    obtain ⟨e2, f2⟩ := toVs_rep hus r2
    subst e1 e2
    exact ⟨a, vs, rfl, q, f1, f2, k _ G H (Grow.refl s) (rep_bl.mpr rfl)⟩
  · cases e
theorem bop_in {neg : Bool} : Bop K mg (rIn K neg) (opIn neg) := by
  intro G H x y d v1 v2 Q s e r1 r2 k
  unfold opIn at e
  split at e
  · rw [rep_tup] at r2
    obtain ⟨a, vs, rfl, h1, h2⟩ := r2
    exact inL_post s e r1 (.inr (Same.sqT s h1)) h2 k
  · rw [rep_lst] at r2
    obtain ⟨a, vs, rfl, h1, h2⟩ := r2
    exact inL_post s e r1 (.inl (s.seq h1)) h2 k
  · cases e
end
section
variable {X : Cx} {W : WX} {a b c : Expr} {pos : Pos} {f g h : FE D} {k : Nat}
abbrev eAdd (f g : FE D) := eBin opAdd f g
abbrev eSub (f g : FE D) := eBin opSub f g
abbrev eMod (f g : FE D) := eBin opMod f g
abbrev eDiv (f g : FE D) := eBin opDiv f g
abbrev ePow (f g : FE D) := eBin opPow f g
abbrev eIx (f g : FE D) := eBin opIx f g
theorem de_add (ja : De X W a f) (jb : De X W b g) : De X W (.BinOp a .Add b pos) (eAdd f g) := de_bin op_addA bop_add ja jb
theorem de_sub (ja : De X W a f) (jb : De X W b g) : De X W (.BinOp a .Sub b pos) (eSub f g) := de_bin op_sub bop_sub ja jb
theorem de_mod (ja : De X W a f) (jb : De X W b g) : De X W (.BinOp a .Mod b pos) (eMod f g) := de_bin op_mod bop_mod ja jb
theorem de_div (ja : De X W a f) (jb : De X W b g) : De X W (.BinOp a .FloorDiv b pos) (eDiv f g) := de_bin op_fdiv bop_div ja jb
theorem de_pow (ja : De X W a f) (jb : De X W b g) : De X W (.BinOp a .Pow b pos) (ePow f g) := de_bin op_pow bop_pow ja jb
theorem de_sub1 (ja : De X W a f) (jb : De X W b g) (hs : PlainIx b := by exact fun _ _ => rfl) : De X W (.Subscript a b pos) (eIx f g) := de_ix ix_both bop_ix ja jb hs
structure Cmp (X : Cx) (o : CmpOp) (op : D → D → Option D) : Prop where
  ex : ∃ r, OpR X (compareOp o) r ∧ Bop X.K X.mg r op
theorem cmp_lt : Cmp X .Lt opLt := ⟨_, op_lt, bop_lt⟩
theorem cmp_le : Cmp X .LtE opLe := ⟨_, op_le, bop_le⟩
theorem cmp_gt : Cmp X .Gt opGt := ⟨_, op_gt, bop_gt⟩
theorem cmp_ge : Cmp X .GtE opGe := ⟨_, op_ge, bop_ge⟩
theorem cmp_eq (hr : Room k X.A) : Cmp X .Eq opEq := ⟨_, op_eqD hr.units, bop_eq⟩
theorem cmp_ne (hr : Room k X.A) : Cmp X .NotEq opNe := ⟨_, op_neD hr.units, bop_ne⟩
theorem cmp_in : Cmp X .In (opIn false) := ⟨_, op_in_seq, bop_in⟩
theorem de_c {o : CmpOp} {op : D → D → Option D} (hc : Cmp X o op) (ja : De X W a f) (jb : De X W b g) (hm : behindInMarks o b = false := by first | exact nomark _ | rfl) : De X W (.Compare a [o] [b] pos) (eBin op f g) :=
  let ⟨_, h1, h2⟩ := hc.ex; de_cmp h1 h2 ja jb hm
theorem dt_c {o : CmpOp} {op : D → D → Option D} (hc : Cmp X o op) (ja : De X W a f) (jb : De X W b g) (hm : behindInMarks o b = false := by first | exact nomark _ | rfl) : Dt X W (.Compare a [o] [b] pos) (eTest (eBin op f g)) :=
  let ⟨_, h1, h2⟩ := hc.ex; dt_cmp h1 h2 ja jb hm
end
end Dl
namespace Dl
open PySem PySem.Spec PyProof.Rows
open Sem (wp)
open AutoSeq1 (wpAny_loadPart')
theorem meets_enumerate_newT (l : Addr) (items : Array Value) (n : Nat) (dct : Option Addr) (sl : Array (Option Value)) :
    Meets (Builtin.«enumerate.__new__» ⟨[.type "enumerate", .ref l], []⟩) (fun _ R s => s.heap.get? l = some { cls := .type "tuple", dict := dct, data := .seq items n, slots := sl } ∧
      R (.ok (.ret (.ref (s.heap.push { cls := .type "tuple_iterator", data := .fields #[.ref l, .int 0 0] }).objs.size)))
        { s with heap := (s.heap.push { cls := .type "tuple_iterator", data := .fields #[.ref l, .int 0 0] }).push { cls := .type "enumerate", data := .fields #[.none, .bool false, .ref s.heap.objs.size, rawInt 0, .none, .none] } }) :=
  .of_wp fun prog w A R s h => by
    obtain ⟨hp, g, d, tk, os⟩ := s; obtain ⟨hl, h⟩ := h
    have hsub := sub_enumerate
    have hL : Heap.IsTuple (Shared.heap ⟨hp, g, d, tk, os⟩) l items := ⟨_, hl, rfl, n, rfl⟩
    wp_walk using wpAny_loadPart' hl
    refine wpAny_stack_any fun st => wpAny_pure ?_
    split
    · rename_i c _ _ _ _ _
      cases (c == Value.type "enumerate")
      · wp_walk using wpAny_loadPart' hl, wpAny_pyIter_tuple hL
        exact ⟨_, rfl, h⟩
      · wp_walk using wpAny_loadPart' hl, wpAny_pyIter_tuple hL
        exact ⟨_, rfl, h⟩
    · wp_walk using wpAny_loadPart' hl, wpAny_pyIter_tuple hL
      exact ⟨_, rfl, h⟩
section
variable {prog : Program} {w : World} {A : Around} {E : Value → Shared → Prop} {s : Shared}
theorem call_enumerate_tuple {l : Addr} {items : Array Value} {Q : Value → Shared → Prop} (hL : s.heap.IsTuple l items)
    (h : ∀ h', IsEnum h' (s.heap.objs.size + 1) s.heap.objs.size 0 .none → h'.IsTupleIter s.heap.objs.size l 0 → h'.objs.size = s.heap.objs.size + 2 →
      (∀ b o, s.heap.get? b = some o → h'.get? b = some o) → Q (.ref (s.heap.objs.size + 1)) { s with heap := h' }) :
    wpAny (model prog w) A (call (.type "enumerate") [.ref l]) Q E s := by
  obtain ⟨⟨c, dct, dt, sl⟩, hl, hc, n, hd⟩ := hL
  replace hc : c = .type "tuple" := hc
  replace hd : dt = .seq items n := hd
  subst hc hd
  refine callType_new F.called_enumerate (by decide) (F.typeCall_enumerate_1 _) (F.newCall_enumerate_1 _) (fun obj => F.args_object_init_2 obj _) F.entry_enumerate_new
    (meets_enumerate_newT l items n dct sl) ⟨hl, ?_⟩
  have hz : (s.heap.push { cls := .type "tuple_iterator", data := .fields #[.ref l, .int 0 0] }).objs.size = s.heap.objs.size + 1 := Heap.size_push ..
  show _ ∧ _
  rw [hz]
  have he : IsEnum ((s.heap.push { cls := .type "tuple_iterator", data := .fields #[.ref l, .int 0 0] }).push
      { cls := .type "enumerate", data := .fields #[.none, .bool false, .ref s.heap.objs.size, rawInt 0, .none, .none] }) (s.heap.objs.size + 1) s.heap.objs.size 0 .none := by
    have := Heap.get?_push_size (s.heap.push { cls := .type "tuple_iterator", data := .fields #[.ref l, .int 0 0] })
      (o := { cls := .type "enumerate", data := .fields #[.none, .bool false, .ref s.heap.objs.size, rawInt 0, .none, .none] }) rfl
    rw [hz] at this; exact this
  refine ⟨⟨_, he, rfl⟩, h _ he ⟨_, Heap.get?_push_of_some _ (Heap.get?_push_size _ rfl), rfl, rfl⟩ (by rw [Heap.size_push, hz]) fun b o x => Heap.get?_push_of_some _ (Heap.get?_push_of_some _ x)⟩
theorem pyNext_enumT_end {e it l : Addr} {i : Nat} {items : Array Value} {old : Value} {Q : Option Value → Shared → Prop} (hh : A.handled = none)
    (he : IsEnum s.heap e it i old) (hit : s.heap.IsTupleIter it l i) (hl : s.heap.IsTuple l items) (hx : items[i]? = none)
    (hQ : ∀ h', Heap.ExtBut it s.heap h' → Q none { s with heap := h' }) : wpAny (model prog w) A (pyNext (.ref e)) Q E s := by
  have hT : s.TypeIs (.ref e) "enumerate" := ⟨_, he, rfl⟩
  unfold pyNext
  refine wpAny_bind (wpAny_attempt (wpAny_callSpecial?_slot (name := Str.ofString "__next__") hT F.slot_enumerate_next
    (wpAny_call_entry F.slot_enumerate_next hT F.entry_enumerate_next ?_ (F.args_enumerate_next_1 _))))
  show wpAny _ _ (field (.ref e) 2 >>= _) _ _ _
  refine wpAny_bind (wpAny_field he rfl (x := .ref it) rfl ?_)
  refine wpAny_bind (wpAny_nextOf_tuple_end hh hit hl hx fun h' x he' hx' => ?_)
  obtain ⟨o, ho, hc⟩ := hx'
  refine wpAny_bind (wpAny_isInstance (T := "StopIteration") (b := true) ⟨o, ho, hc⟩ isSubtype_stop ?_)
  exact wpAny_pure (hQ _ he')
end
open L2
def IteT (K : PySem.W.Frag) (a : Addr) : It :=
  ⟨fun i H => ∃ (xs : List V) (x : V), SqT K H a xs ∧ xs[i]? = some x, fun i H v H' => ∃ T x, v = .ref T ∧ H T = none ∧ H' = L2.upd H T (.tup [.int (i : Nat), x]) ∧ ∀ xs, SqT K H a xs → xs[i]? = some x, fun i H => ∃ xs : List V, SqT K H a xs ∧ xs.length ≤ i⟩
theorem turn_enumT {P : Program} {w : World} {K : PySem.W.Frag} {elts : List Expr} {kk : Nat} {tpos : Pos} (a e it : Addr) (hai : a ≠ it) (hae : a ≠ e) :
    Turn P w K (.Tuple elts kk tpos) (IteT K a) [e, it] e (fun i h => (∃ old, IsEnum h e it ((i : Nat) : Int) old) ∧ h.IsTupleIter it a i ∧ e ≠ it) where
  mem := by simp
  obj := fun i h st b hb => by
    obtain ⟨⟨old, he⟩, ⟨o, ho, hc, hd⟩, _⟩ := st
    have e' : b = e ∨ b = it := by simpa using hb
    rcases e' with z | z
    · rw [z]; exact ⟨_, he, fun v q => nomatch q⟩
    · rw [z]; exact ⟨o, ho, fun v q => by rw [hd] at q; cases q⟩
  keep := fun i h h' st k => let ⟨⟨old, he⟩, hi, hne⟩ := st; ⟨⟨old, k e (by simp) _ he⟩, hi.at fun o q => k it (by simp) o q, hne⟩
  item := by
    intro X hP hw hK hc i pins s σ H E I hf st hg
    subst hP hw hK
    obtain ⟨⟨old, he⟩, hit, hne⟩ := st
    obtain ⟨xs, x, hq, hx⟩ := hg
    obtain ⟨its, rv, p, hz⟩ := I.tuple hq
    obtain ⟨u, hu, ru⟩ := rv.get hx
    have hel : e < s.heap.objs.size := Heap.lt_size he
    have hil : it < s.heap.objs.size := by obtain ⟨_, q, _⟩ := hit; exact Heap.lt_size q
    have DD := Draws.tuple (prog := X.prog) (w := X.w) (A := X.A.in1) (I.ok.hd hc) it a hai its.toArray
    have hi : i < its.toArray.size := by
      have := (List.getElem?_eq_some_iff.mp hu).1
      simpa using this
    refine wpAny_pyNext_enum_itemD DD he ⟨hit, p⟩ hi hne (by simp [hne, hae.symm]) fun x' h' tk hP ho hst' hT hsz hk => ?_
    have hxu : x' = u := by
      have h1 : its.toArray[i]? = some x' := hP
      have h2 : its.toArray[i]? = some u := by simpa using hu
      rw [h1] at h2; exact Option.some.inj h2
    subst hxu
    obtain ⟨hit', _⟩ := hst'
    refine ⟨_, rfl, wpAny_letOwnedTupleGo_enum (s := { s with heap := h', toks := tk + 1 }) ho fun h'' he' sb => ?_⟩
    have hT2 : h''.get? s.heap.objs.size = some { cls := .type "tuple", data := .seq #[.int i tk, x'] } := (sb.2 _ (Nat.ne_of_gt hel)).trans hT
    have new : ObjOk X.prog X.w (L2.upd H s.heap.objs.size (.tup [.int (i : Nat), x])) h'' s.heap.objs.size (.tup [.int (i : Nat), x]) :=
      ⟨by show 2 ≤ sizeLine; decide, [.int i tk, x'], .cons ⟨_, rfl⟩ (.cons ru .nil), ⟨_, hT2, rfl, _, rfl⟩⟩
    have I1 : Inv X pins σ (L2.upd H s.heap.objs.size (.tup [.int (i : Nat), x])) { s with heap := h'', toks := tk + 1 } :=
      I.turnedNew (ch := [e, it]) (fun b ob hb q => (sb.2 b (fun z => hb (by simp [z]))).trans (hk b ob (fun z => hb (by simp [z])) (fun z => hb (by simp [z])) q)) hf (Nat.le_refl _) new
    refine ⟨.ref s.heap.objs.size, _, I1, rfl, ⟨_, x, rfl, I.hok.fresh (Nat.le_refl _), rfl, fun ys hy => by rw [I.tuple_inj hy hq]; exact hx⟩, ⟨⟨x', ?_⟩, hit'.at fun o q => (sb.2 it (Ne.symm hne)).trans q, hne⟩, fun b hb => ?_⟩
    · have e1 : ((i + 1 : Nat) : Int) = (i : Int) + 1 := by omega
      rw [e1]; exact he'
    · have hb' : b < s.heap.objs.size := by
        have e' : b = e ∨ b = it := by simpa using hb
        rcases e' with z | z
        · rw [z]; exact hel
        · rw [z]; exact hil
      rw [upd_ne (Nat.ne_of_lt hb')]
      exact (hf b hb).1
  done := by
    intro X hP hw hK hc i pins s σ H E I hf st hg
    subst hP hw hK
    obtain ⟨⟨old, he⟩, hit, hne⟩ := st
    obtain ⟨xs, hq, hx⟩ := hg
    obtain ⟨its, rv, p, hz⟩ := I.tuple hq
    obtain ⟨f0, f1, f2, f3, f4, f5⟩ := hf it (by simp)
    have hl := rv.length
    exact pyNext_enumT_end (I.ok.hd hc) he hit (show s.heap.IsTuple a its.toArray from p) (by simp; omega) fun h' eb => ⟨rfl, I.turned (t' := s.toks) (fun b o hb q => eb b o hb q) f0 f1 f3 f4 f5⟩
  self := fun A i s Q E st h => let ⟨⟨_, he⟩, _⟩ := st; wpAny_pyIter_enum he h
def iEnumA (K : PySem.W.Frag) (ta : TA) : TI := fun σ H R => ta σ H fun vs H1 => ∃ a xs, vs = [.ref a] ∧ ((SqL K H1 a xs ∧ R (Ite K a) H1) ∨ (SqT K H1 a xs ∧ R (IteT K a) H1))
theorem pi_enumA {X : Cx} {e : Expr} {ta : TA} {p pos tpos : Pos} {elts : List Expr} {kk : Nat} (hg : Gl X "enumerate") (hm : X.mg "enumerate" = none) (ha : PA X [e] ta) (hs : starEach [e] X.env = [(false, eval e X.env)] := by rfl) :
    PI X (.Tuple elts kk tpos) (.Call (.Name "enumerate" p) [e] [] pos) (iEnumA X.K ta) := by
  refine ⟨fun pins s σ H R I h => ?_⟩
  refine Call_ (ld_blt I hg hm boot_enumerate (PyProof.Rows.callWith_type1 (thn (ha.run pos pins s σ H _ I h) fun us s1 ⟨vs, H1, I1, r1, q1⟩ => ?_) hs rfl))
  obtain ⟨a, xs, ex, q⟩ := q1
  subst ex
  cases r1 with
  | cons r rr =>
    cases rr
    cases r
    have fr2 : ∀ b, b ∈ [s1.heap.objs.size + 1, s1.heap.objs.size] → FpOk X pins H1 b := fun b hb => by
      have e' : b = s1.heap.objs.size + 1 ∨ b = s1.heap.objs.size := by simpa using hb
      have hle : s1.heap.objs.size ≤ b := by
        rcases e' with z | z
        · rw [z]; exact Nat.le_add_right _ _
        · rw [z]; exact Nat.le_refl _
      exact I1.fpOk hle (I1.hok.fresh hle)
    rcases q with ⟨hq, q⟩ | ⟨hq, q⟩
    · obtain ⟨its, rv, p', hz⟩ := I1.list hq
      refine call_enumerate_list p'.isList fun h' he hit hsz hk => wpAny_pyIter_enum he ?_
      have I2 : Inv X pins σ H1 { s1 with heap := h' } := I1.kept (t' := s1.toks) hk
      exact ⟨s1.heap.objs.size + 1, [s1.heap.objs.size + 1, s1.heap.objs.size], _, _, H1, rfl, I2, turn_enum a (s1.heap.objs.size + 1) s1.heap.objs.size, ⟨⟨.none, he⟩, hit, Nat.succ_ne_self _⟩, fr2, q⟩
    · obtain ⟨its, rv, p', hz⟩ := I1.tuple hq
      obtain ⟨o1, ho1, _⟩ := id p'
      have hlt := Heap.lt_size ho1
      refine call_enumerate_tuple (show s1.heap.IsTuple a its.toArray from p') fun h' he hit hsz hk => wpAny_pyIter_enum he ?_
      have I2 : Inv X pins σ H1 { s1 with heap := h' } := I1.kept (t' := s1.toks) hk
      exact ⟨s1.heap.objs.size + 1, [s1.heap.objs.size + 1, s1.heap.objs.size], _, _, H1, rfl, I2, turn_enumT a (s1.heap.objs.size + 1) s1.heap.objs.size (Nat.ne_of_lt hlt) (Nat.ne_of_lt (Nat.lt_succ_of_lt hlt)), ⟨⟨.none, he⟩, hit, Nat.succ_ne_self _⟩, fr2, q⟩
end Dl
namespace Dl
open PySem L2
abbrev FG := D → Rho → Option Rho
def Dg (X : Cx) (tg : Expr) (is : List Nat) (f : FG) : Prop :=
  ∃ g, PG X tg g ∧ ∀ G α ρ σ H d v (Q : St → Hp → Prop), Same G H → Slots X.K X.mg G α ρ σ → Rep X.K X.mg G d v →
    (match f d ρ with
      | none => False
      | some ρ' => ∀ σ', Slots X.K X.mg G α ρ' σ' → (∀ j, j ∉ is → σ'[j]? = σ[j]?) → σ'.length = σ.length → Q σ' H) → g v σ H Q
def Dgs (X : Cx) (tgs : List Expr) (is : List Nat) (f : List D → Rho → Option Rho) : Prop :=
  ∃ g, PGs X tgs g ∧ ∀ G α ρ σ H ds vs (Q : St → Hp → Prop), Same G H → Slots X.K X.mg G α ρ σ → Reps X.K X.mg G ds vs →
    (match f ds ρ with
      | none => False
      | some ρ' => ∀ σ', Slots X.K X.mg G α ρ' σ' → (∀ j, j ∉ is → σ'[j]? = σ[j]?) → σ'.length = σ.length → Q σ' H) → g vs σ H Q
def gN (i : Nat) : FG := fun d ρ => some (ρ.set i (some (.val d)))
def gsNil : List D → Rho → Option Rho := fun ds ρ => match ds with
  | [] => some ρ
  | _ => none
def gsCons (f : FG) (g : List D → Rho → Option Rho) : List D → Rho → Option Rho := fun ds ρ => match ds with
  | [] => none
  | d :: r => (f d ρ).bind fun ρ1 => g r ρ1
def gT (n : Nat) (g : List D → Rho → Option Rho) : FG := fun d ρ => match d with
  | .tup ds => if ds.length = n then g ds ρ else none
  | .lst ds => if ds.length = n then g ds ρ else none
  | _ => none
section
variable {X : Cx} {pos : Pos}
theorem sqL_same {K : PySem.W.Frag} {H H' : Hp} {a : Addr} {xs : List V} (e : Same H H') (h : SqL K H a xs) : SqL K H' a xs := by
  rcases h with (h | ⟨o, h⟩) | h
  · exact .inl (.inl (e _ _ h))
  · exact .inl (.inr ⟨o, e _ _ h⟩)
  · exact .inr h
theorem pg_or {e : Expr} {t1 t2 : TG} (h1 : PG X e t1) (h2 : PG X e t2) : PG X e (fun v σ H Q => t1 v σ H Q ∨ t2 v σ H Q) := ⟨fun pins s σ H v u Q I r hw => hw.elim (h1.run pins s σ H v u Q I r) (h2.run pins s σ H v u Q I r)⟩
theorem dg_name {i : Nat} {x : Str} (hN : X.N.Nodup) (hi : X.N[i]? = some x := by rfl) (hx : Loc X.env.scope x := by first | exact Or.inl rfl | exact Or.inr rfl) (hf : X.fn x = true ∨ X.env.scope.names.lookup x = some .local := by first | exact .inl rfl | exact .inr rfl) : Dg X (.Name x pos) [i] (gN i) := by
  refine ⟨_, pg_name hN hi hx hf, fun G α ρ σ H d v Q s S r h => ?_⟩
  exact h _ (S.set i (x := .val d) r) (fun j hj => List.getElem?_set_ne (by intro e; subst e; exact hj (List.mem_singleton.mpr rfl))) (by simp)
theorem dgs_nil : Dgs X [] [] gsNil := by
  refine ⟨_, pgs_nil, fun G α ρ σ H ds vs Q s S r h => ?_⟩
  cases ds with
  | nil => exact ⟨reps_nil.mp r, h σ S (fun _ _ => rfl) rfl⟩
  | cons _ _ => exact h.elim
theorem dgs_cons {e : Expr} {es : List Expr} {is js : List Nat} {f : FG} {g : List D → Rho → Option Rho} (h1 : Dg X e is f) (h2 : Dgs X es js g)
    (hs : (assignEach (e :: es) X.env).map (·.2) = assign e X.env :: (assignEach es X.env).map (·.2) := by rfl) : Dgs X (e :: es) (is ++ js) (gsCons f g) := by
  obtain ⟨t1, p1, k1⟩ := h1
  obtain ⟨t2, p2, k2⟩ := h2
  refine ⟨_, pgs_cons p1 p2 hs, fun G α ρ σ H ds vs Q s S r h => ?_⟩
  cases ds with
  | nil => exact h.elim
  | cons d r' =>
    rw [reps_cons] at r
    obtain ⟨v, vr, rfl, q1, q2⟩ := r
    refine ⟨v, vr, rfl, k1 G α ρ σ H d v _ s S q1 ?_⟩
    unfold gsCons at h
    dsimp only at h
    cases e1 : f d ρ with
    | none => rw [e1] at h; exact h.elim
    | some ρ1 =>
      rw [e1] at h
      intro σ1 S1 c1 l1
      refine k2 G α ρ1 σ1 H r' vr _ s S1 q2 ?_
      have h' : (match g r' ρ1 with
        | none => False
        | some ρ' => ∀ σ', Slots X.K X.mg G α ρ' σ' → (∀ j, j ∉ is ++ js → σ'[j]? = σ[j]?) → σ'.length = σ.length → Q σ' H) := h
      cases e2 : g r' ρ1 with
      | none => rw [e2] at h'; exact h'.elim
      | some ρ2 =>
        rw [e2] at h'
        intro σ2 S2 c2 l2
        exact h' σ2 S2 (fun j hj => (c2 j fun z => hj (List.mem_append_right _ z)).trans (c1 j fun z => hj (List.mem_append_left _ z))) (l2.trans l1)
theorem dg_tup {es : List Expr} {k n : Nat} {is : List Nat} {g : List D → Rho → Option Rho} (hc : X.calm = true) (h : Dgs X es is g)
    (hn : (assignEach es X.env).length = n := by rfl) (hst : (assignEach es X.env).findIdx? (·.1) = none := by rfl) : Dg X (.Tuple es k pos) is (gT n g) := by
  obtain ⟨t, p, kk⟩ := h
  refine ⟨_, pg_or (pg_tup hc p hn hst) (pg_unl hc p hn hst), fun G α ρ σ H d v Q s S r h => ?_⟩
  unfold gT at h
  cases d with
  | tup ds =>
    dsimp only at h
    rw [rep_tup] at r
    obtain ⟨a, vs, rfl, q, rs⟩ := r
    split at h
    · exact h.elim
    · rename_i ρ' e1
      split at e1
      · rename_i hl
        refine .inl ⟨a, vs, rfl, Same.sqT s q, by rw [rs.length]; exact hl, kk G α ρ σ H ds vs Q s S rs ?_⟩
        rw [e1]
        exact h
      · cases e1
  | lst ds =>
    dsimp only at h
    rw [rep_lst] at r
    obtain ⟨a, vs, rfl, q, rs⟩ := r
    split at h
    · exact h.elim
    · rename_i ρ' e1
      split at e1
      · rename_i hl
        refine .inr ⟨a, vs, rfl, sqL_same s q, by rw [rs.length]; exact hl, kk G α ρ σ H ds vs Q s S rs ?_⟩
        rw [e1]
        exact h
      · cases e1
  | _ => exact h.elim
end
def WalkD (K : PySem.W.Frag) (mg : MG) (st : Hp → Hp → Prop) (J : It) (ds : List D) : Prop :=
  ∀ i G H, Same G H → st G H → (∀ d, ds[i]? = some d → J.go i H ∧ ∀ x H', J.yld i H x H' → ∃ G', Grow G H G' H' ∧ Rep K mg G' d x) ∧ (ds.length ≤ i → J.stop i H)
def RI (K : PySem.W.Frag) (mg : MG) : Hp → List Addr → Hp → List D → It → Prop := fun G _ _ ds J => WalkD K mg (fun G' _ => Same G G') J ds
def Di (X : Cx) (W : WX) (tg iter : Expr) (f : FE (List D)) : Prop :=
  ∃ wi, PI X tg iter wi ∧ ∀ G α ρ ω σ H (R : It → Hp → Prop), Own X.K X.mg G α ω H → Slots X.K X.mg G α ρ σ → Post X.K X.mg (RI X.K X.mg) G α H R (fun c d H' => W c d σ H') (f ρ ω) → wi σ H R
section
variable {K : PySem.W.Frag} {mg : MG}
theorem walk_l {a : Addr} {st : Hp → Hp → Prop} {ds : List D} (h : ∀ G H, Same G H → st G H → ∃ vs, SqL K H a vs ∧ Reps K mg G ds vs) : WalkD K mg st (Itl K a) ds := by
  intro i G H s q
  obtain ⟨vs, h1, h2⟩ := h G H s q
  refine ⟨fun d hd => ?_, fun hl => ⟨vs, h1, by rw [h2.length]; exact hl⟩⟩
  obtain ⟨v, h3, h4⟩ := h2.get hd
  refine ⟨⟨vs, v, h1, h3⟩, fun x H' y => ?_⟩
  obtain ⟨rfl, y⟩ := y
  have := y vs h1
  rw [h3] at this; cases this
  exact ⟨G, Grow.refl s, h4⟩
theorem walk_t {a : Addr} {st : Hp → Hp → Prop} {ds : List D} (h : ∀ G H, Same G H → st G H → ∃ vs, SqT K H a vs ∧ Reps K mg G ds vs) : WalkD K mg st (Itt K a) ds := by
  intro i G H s q
  obtain ⟨vs, h1, h2⟩ := h G H s q
  refine ⟨fun d hd => ?_, fun hl => ⟨vs, h1, by rw [h2.length]; exact hl⟩⟩
  obtain ⟨v, h3, h4⟩ := h2.get hd
  refine ⟨⟨vs, v, h1, h3⟩, fun x H' y => ?_⟩
  obtain ⟨rfl, y⟩ := y
  have := y vs h1
  rw [h3] at this; cases this
  exact ⟨G, Grow.refl s, h4⟩
def pairI (i : Nat) (d : D) : D := .tup [.int (i : Nat), d]
def enumD (ds : List D) : List D := ds.mapIdx pairI
theorem pair_new {G H : Hp} {T : Addr} {d e : D} {v u : V} (s : Same G H) (hT : H T = none) (r1 : Rep K mg G d v) (r2 : Rep K mg G e u) : ∃ G', Grow G H G' (L2.upd H T (.tup [v, u])) ∧ Rep K mg G' (.tup [d, e]) (.ref T) :=
  ⟨_, Grow.put s hT, rep_newT (H := H) (s.free hT) (reps_cons.mpr ⟨_, _, rfl, r1, Reps.one r2⟩)⟩
theorem walk_el {a : Addr} {st : Hp → Hp → Prop} {ds : List D} (h : ∀ G H, Same G H → st G H → ∃ vs, SqL K H a vs ∧ Reps K mg G ds vs) : WalkD K mg st (Ite K a) (enumD ds) := by
  intro i G H s q
  obtain ⟨vs, h1, h2⟩ := h G H s q
  refine ⟨fun d hd => ?_, fun hl => ⟨vs, h1, by rw [h2.length]; simpa [enumD] using hl⟩⟩
  unfold enumD at hd
  rw [List.getElem?_mapIdx] at hd
  cases q1 : ds[i]? with
  | none => rw [q1] at hd; cases hd
  | some d0 =>
    rw [q1] at hd; cases hd
    obtain ⟨v, h3, h4⟩ := h2.get q1
    refine ⟨⟨vs, v, h1, h3⟩, fun x H' y => ?_⟩
    obtain ⟨T, x0, rfl, hT, rfl, y⟩ := y
    have := y vs h1
    rw [h3] at this; cases this
    exact pair_new s hT (rep_int.mpr rfl) h4
theorem walk_et {a : Addr} {st : Hp → Hp → Prop} {ds : List D} (h : ∀ G H, Same G H → st G H → ∃ vs, SqT K H a vs ∧ Reps K mg G ds vs) : WalkD K mg st (IteT K a) (enumD ds) := by
  intro i G H s q
  obtain ⟨vs, h1, h2⟩ := h G H s q
  refine ⟨fun d hd => ?_, fun hl => ⟨vs, h1, by rw [h2.length]; simpa [enumD] using hl⟩⟩
  unfold enumD at hd
  rw [List.getElem?_mapIdx] at hd
  cases q1 : ds[i]? with
  | none => rw [q1] at hd; cases hd
  | some d0 =>
    rw [q1] at hd; cases hd
    obtain ⟨v, h3, h4⟩ := h2.get q1
    refine ⟨⟨vs, v, h1, h3⟩, fun x H' y => ?_⟩
    obtain ⟨T, x0, rfl, hT, rfl, y⟩ := y
    have := y vs h1
    rw [h3] at this; cases this
    exact pair_new s hT (rep_int.mpr rfl) h4
def pairD (d e : D) : D := .tup [d, e]
def zipD (ds es : List D) : List D := List.zipWith pairD ds es
theorem walk_zl {a b : Addr} {st : Hp → Hp → Prop} {ds es : List D} (h : ∀ G H, Same G H → st G H → ∃ vs us, SqL K H a vs ∧ Reps K mg G ds vs ∧ SqL K H b us ∧ Reps K mg G es us) : WalkD K mg st (Itz K a b) (zipD ds es) := by
  intro i G H s q
  obtain ⟨vs, us, h1, h2, h5, h6⟩ := h G H s q
  refine ⟨fun d hd => ?_, fun hl => ⟨vs, us, h1, h5, by rw [h2.length, h6.length]; unfold zipD at hl; rw [List.length_zipWith] at hl; omega⟩⟩
  unfold zipD at hd
  rw [List.getElem?_zipWith] at hd
  cases q1 : ds[i]? with
  | none => rw [q1] at hd; cases hd
  | some d0 =>
    cases q2 : es[i]? with
    | none => rw [q1, q2] at hd; cases hd
    | some e0 =>
      rw [q1, q2] at hd; cases hd
      obtain ⟨v, h3, h4⟩ := h2.get q1
      obtain ⟨u, h7, h8⟩ := h6.get q2
      refine ⟨⟨vs, us, v, u, h1, h5, h3, h7⟩, fun x H' y => ?_⟩
      obtain ⟨T, x0, y0, rfl, hT, rfl, y1, y2⟩ := y
      have z1 := y1 vs h1
      rw [h3] at z1; cases z1
      have z2 := y2 us h5
      rw [h7] at z2; cases z2
      exact pair_new s hT h4 h8
theorem walk_zt {a b : Addr} {st : Hp → Hp → Prop} {ds es : List D} (h : ∀ G H, Same G H → st G H → ∃ vs us, SqT K H a vs ∧ Reps K mg G ds vs ∧ SqT K H b us ∧ Reps K mg G es us) : WalkD K mg st (RZ.ItzT K a b) (zipD ds es) := by
  intro i G H s q
  obtain ⟨vs, us, h1, h2, h5, h6⟩ := h G H s q
  refine ⟨fun d hd => ?_, fun hl => ⟨vs, us, h1, h5, by rw [h2.length, h6.length]; unfold zipD at hl; rw [List.length_zipWith] at hl; omega⟩⟩
  unfold zipD at hd
  rw [List.getElem?_zipWith] at hd
  cases q1 : ds[i]? with
  | none => rw [q1] at hd; cases hd
  | some d0 =>
    cases q2 : es[i]? with
    | none => rw [q1, q2] at hd; cases hd
    | some e0 =>
      rw [q1, q2] at hd; cases hd
      obtain ⟨v, h3, h4⟩ := h2.get q1
      obtain ⟨u, h7, h8⟩ := h6.get q2
      refine ⟨⟨vs, us, v, u, h1, h5, h3, h7⟩, fun x H' y => ?_⟩
      obtain ⟨T, x0, y0, rfl, hT, rfl, y1, y2⟩ := y
      have z1 := y1 vs h1
      rw [h3] at z1; cases z1
      have z2 := y2 us h5
      rw [h7] at z2; cases z2
      exact pair_new s hT h4 h8
def rngD (lo hi : Int) : List D := (List.range (hi - lo).toNat).map fun i => .int (lo + (i : Nat))
theorem walk_r {lo : Int} {n : Nat} {st : Hp → Hp → Prop} : WalkD K mg st (Itr lo n) ((List.range n).map fun i => .int (lo + (i : Nat))) := by
  intro i G H s q
  refine ⟨fun d hd => ?_, fun hl => by show n ≤ i; simpa using hl⟩
  rw [List.getElem?_map] at hd
  by_cases hi : i < n
  · rw [List.getElem?_range hi] at hd
    cases hd
    refine ⟨hi, fun x H' y => ?_⟩
    obtain ⟨rfl, rfl⟩ := y
    exact ⟨G, Grow.refl s, rep_int.mpr rfl⟩
  · rw [List.getElem?_eq_none (by simpa using hi)] at hd
    cases hd
end
def itEn : D → Option (List D)
  | .lst ds => some (enumD ds)
  | .tup ds => some (enumD ds)
  | _ => none
def itZ : D → D → Option (List D)
  | .lst ds, .lst es => some (zipD ds es)
  | .tup ds, .tup es => some (zipD ds es)
  | _, _ => none
abbrev big : Int := 4611686018427387904
def itR1 : D → Option (List D)
  | .int j => if -big ≤ j ∧ j < big then some (rngD 0 j) else none
  | _ => none
def eIt1 (o : D → Option (List D)) (f : FE D) : FE (List D) := fun ρ ω => (f ρ ω).bind fun d ω1 => Res.lift (o d) ω1
def eIt2 (o : D → D → Option (List D)) (f g : FE D) : FE (List D) := fun ρ ω => (f ρ ω).bind fun d ω1 => (g ρ ω1).bind fun e ω2 => Res.lift (o d e) ω2
def eIt3 (o : D → D → D → Option (List D)) (f g h : FE D) : FE (List D) := fun ρ ω => (f ρ ω).bind fun d ω1 => (g ρ ω1).bind fun e ω2 => (h ρ ω2).bind fun k ω3 => Res.lift (o d e k) ω3
section
variable {X : Cx} {W : WX} {tg a b c e : Expr} {p pos : Pos} {f g h : FE D}
def itSeq : D → Option (List D)
  | .lst ds => some ds
  | .tup ds => some ds
  | _ => none
theorem pi_seq {l : Expr} {tl : TE} (hl : PE X l tl) : PI X tg l (fun σ H R => iList X.K tl σ H R ∨ iTup X.K tl σ H R) :=
  ⟨fun pins s σ H R I h => h.elim ((pi_list hl).run pins s σ H R I) ((pi_tup hl).run pins s σ H R I)⟩
theorem di_seq (j : De X W e f) : Di X W tg e (eIt1 itSeq f) := by
  obtain ⟨t, q, k⟩ := j
  refine ⟨_, pi_seq q, fun G α ρ ω σ H R O S P => ?_⟩
  unfold eIt1 at P
  cases r : f ρ ω with
  | stuck => rw [r] at P; exact P.elim
  | exc x ω1 =>
    rw [r] at P
    refine .inl (k G α ρ ω σ H _ O S ?_)
    rw [r]; exact P
  | ok d ω1 =>
    rw [r] at P
    cases d with
    | lst ds =>
      refine .inl (k G α ρ ω σ H _ O S ?_)
      rw [r]
      intro v G1 α1 H1 e1 O1 r1
      have r1' : Rep X.K X.mg G1 (.lst ds) v := r1
      rw [rep_lst] at r1'
      obtain ⟨a, vs, e3, q, r⟩ := r1'
      exact ⟨a, e3, ⟨vs, O1.sub.seq q⟩, Post.here O1 (walk_l fun G2 H2 s g => ⟨vs, (g.trans s).seq q, Reps.mono g _ _ r⟩) (Post.weak e1 P)⟩
    | tup ds =>
      refine .inr (k G α ρ ω σ H _ O S ?_)
      rw [r]
      intro v G1 α1 H1 e1 O1 r1
      have r1' : Rep X.K X.mg G1 (.tup ds) v := r1
      rw [rep_tup] at r1'
      obtain ⟨a, vs, e3, q, r⟩ := r1'
      exact ⟨a, e3, ⟨vs, Same.sqT O1.sub q⟩, Post.here O1 (walk_t fun G2 H2 s g => ⟨vs, Same.sqT (g.trans s) q, Reps.mono g _ _ r⟩) (Post.weak e1 P)⟩
    | _ => exact P.elim
theorem arg1 {t : TE} {K : PySem.W.Frag} {mg : MG} {β γ : Type} {R : Hp → List Addr → Hp → β → γ → Prop} {R0 : γ → Hp → Prop} {G H : Hp} {α : List Addr} {ρ : Rho} {ω : Om} {σ : St} {fn : D → Om → Res β} {Q1 : List V → Hp → Prop}
    (k : ∀ G α ρ ω σ H Q, Own K mg G α ω H → Slots K mg G α ρ σ → Post K mg (RD K mg) G α H Q (fun c d H' => W c d σ H') (f ρ ω) → t σ H Q) (O : Own K mg G α ω H) (S : Slots K mg G α ρ σ)
    (P : Post K mg R G α H R0 (fun c d H' => W c d σ H') ((f ρ ω).bind fn))
    (h : ∀ d ω1 v G1 α1 H1, Ext G α H G1 α1 H1 → Own K mg G1 α1 ω1 H1 → Rep K mg G1 d v → Post K mg R G1 α1 H1 R0 (fun c d H' => W c d σ H') (fn d ω1) → Q1 [v] H1) : tCons t tNil σ H Q1 :=
  Post.step (t := t σ H) (Q1 := fun x H1 => Q1 [x] H1) (k G α ρ ω σ H · O S) P fun d ω1 v G1 α1 H1 e1 O1 r1 P1 => h d ω1 v G1 α1 H1 e1 O1 r1 P1
theorem arg2 {t u : TE} {K : PySem.W.Frag} {mg : MG} {β γ : Type} {R : Hp → List Addr → Hp → β → γ → Prop} {R0 : γ → Hp → Prop} {G H : Hp} {α : List Addr} {ρ : Rho} {ω : Om} {σ : St} {fn : D → D → Om → Res β} {Q1 : List V → Hp → Prop}
    (k : ∀ G α ρ ω σ H Q, Own K mg G α ω H → Slots K mg G α ρ σ → Post K mg (RD K mg) G α H Q (fun c d H' => W c d σ H') (f ρ ω) → t σ H Q)
    (k2 : ∀ G α ρ ω σ H Q, Own K mg G α ω H → Slots K mg G α ρ σ → Post K mg (RD K mg) G α H Q (fun c d H' => W c d σ H') (g ρ ω) → u σ H Q) (O : Own K mg G α ω H) (S : Slots K mg G α ρ σ)
    (P : Post K mg R G α H R0 (fun c d H' => W c d σ H') ((f ρ ω).bind fun d ω1 => (g ρ ω1).bind fun e ω2 => fn d e ω2))
    (h : ∀ d e ω1 v v2 G1 α1 H1, Ext G α H G1 α1 H1 → Own K mg G1 α1 ω1 H1 → Rep K mg G1 d v → Rep K mg G1 e v2 → Post K mg R G1 α1 H1 R0 (fun c d H' => W c d σ H') (fn d e ω1) → Q1 [v, v2] H1) : tCons t (tCons u tNil) σ H Q1 := by
  refine Post.step (t := t σ H) (Q1 := fun x H1 => u σ H1 fun y H2 => Q1 [x, y] H2) (k G α ρ ω σ H · O S) P fun d ω1 v G1 α1 H1 e1 O1 r1 P1 => ?_
  refine Post.step (t := u σ H1) (k2 G1 α1 ρ ω1 σ H1 · O1 (S.mono e1)) P1 fun d2 ω2 v2 G2 α2 H2 e2 O2 r2 P2 => ?_
  exact h d d2 ω2 v v2 G2 α2 H2 (e1.trans e2) O2 (Rep.mono e2.g _ _ r1) r2 P2
theorem di_enum {elts : List Expr} {kk : Nat} {tpos : Pos} (hm : X.mg "enumerate" = none) (j : De X W e f) (hg : Gl X "enumerate" := by rfl) (hs : starEach [e] X.env = [(false, eval e X.env)] := by rfl)
    (hs2 : starEach (e :: []) X.env = (false, eval e X.env) :: starEach [] X.env := by rfl) :
    Di X W (.Tuple elts kk tpos) (.Call (.Name "enumerate" p) [e] [] pos) (eIt1 itEn f) := by
  obtain ⟨t, q, k⟩ := j
  refine ⟨_, pi_enumA hg hm (pa_cons q pa_nil hs2) hs, fun G α ρ ω σ H R O S P => ?_⟩
  refine arg1 k O S P fun d ω1 v G1 α1 H1 e1 O1 r1 P1 => ?_
  obtain ⟨ds, e2, P2⟩ := P1.lift
  cases d with
  | tup ds' =>
    cases e2
    rw [rep_tup] at r1
    obtain ⟨a, vs, rfl, q, r⟩ := r1
    exact ⟨a, vs, rfl, .inr ⟨Same.sqT O1.sub q, Post.here O1 (walk_et fun G2 H2 s g => ⟨vs, Same.sqT (g.trans s) q, Reps.mono g _ _ r⟩) P2⟩⟩
  | lst ds' =>
    cases e2
    rw [rep_lst] at r1
    obtain ⟨a, vs, rfl, q, r⟩ := r1
    exact ⟨a, vs, rfl, .inl ⟨O1.sub.seq q, Post.here O1 (walk_el fun G2 H2 s g => ⟨vs, (g.trans s).seq q, Reps.mono g _ _ r⟩) P2⟩⟩
  | _ => cases e2
theorem di_zip {elts : List Expr} {kk : Nat} {tpos : Pos} (hm : X.mg "zip" = none) (ja : De X W a f) (jb : De X W b g) (hg : Gl X "zip" := by rfl) (hs : starEach [a, b] X.env = (false, eval a X.env) :: starEach [b] X.env := by rfl)
    (hs2 : starEach [b] X.env = (false, eval b X.env) :: starEach [] X.env := by rfl) (hpl : (backTo pos (starEach [b] X.env)).any (·.1) = false := by rfl) :
    Di X W (.Tuple elts kk tpos) (.Call (.Name "zip" p) [a, b] [] pos) (eIt2 itZ f g) := by
  obtain ⟨t, q, k⟩ := ja
  obtain ⟨u, q2, k2⟩ := jb
  refine ⟨_, RZ.pi_zipA hg hm (pa_cons q (pa_cons q2 pa_nil hs2) hs) hs hpl, fun G α ρ ω σ H R O S P => ?_⟩
  refine arg2 k k2 O S P fun d e ω1 v v2 G1 α1 H1 e1 O1 r1 r2 P1 => ?_
  obtain ⟨ds, e2, P2⟩ := P1.lift
  unfold itZ at e2
  split at e2
  · cases e2
    rw [rep_lst] at r1 r2
    obtain ⟨a, vs, rfl, q, r⟩ := r1
    obtain ⟨b, us, rfl, q', r'⟩ := r2
    exact ⟨a, b, vs, us, rfl, .inl ⟨O1.sub.seq q, O1.sub.seq q', Post.here O1 (walk_zl fun G2 H2 s g => ⟨vs, us, (g.trans s).seq q, Reps.mono g _ _ r, (g.trans s).seq q', Reps.mono g _ _ r'⟩) P2⟩⟩
  · cases e2
    rw [rep_tup] at r1 r2
    obtain ⟨a, vs, rfl, q, r⟩ := r1
    obtain ⟨b, us, rfl, q', r'⟩ := r2
    exact ⟨a, b, vs, us, rfl, .inr ⟨Same.sqT O1.sub q, Same.sqT O1.sub q', Post.here O1 (walk_zt fun G2 H2 s g => ⟨vs, us, Same.sqT (g.trans s) q, Reps.mono g _ _ r, Same.sqT (g.trans s) q', Reps.mono g _ _ r'⟩) P2⟩⟩
  · cases e2
theorem di_range1 (hm : X.mg "range" = none) (j : De X W a f) (hg : Gl X "range" := by rfl) (hs : starEach [a] X.env = [(false, eval a X.env)] := by rfl)
    (hs2 : starEach (a :: []) X.env = (false, eval a X.env) :: starEach [] X.env := by rfl) : Di X W tg (.Call (.Name "range" p) [a] [] pos) (eIt1 itR1 f) := by
  obtain ⟨t, q, k⟩ := j
  refine ⟨_, pi_range1 hg hm (pa_cons q pa_nil hs2) hs, fun G α ρ ω σ H R O S P => ?_⟩
  refine arg1 k O S P fun d ω1 v G1 α1 H1 e1 O1 r1 P1 => ?_
  obtain ⟨ds, e2, P2⟩ := P1.lift
  unfold itR1 at e2
  split at e2
  · split at e2
    · rename_i j hb
      cases e2
      rw [rep_int] at r1
      subst r1
      refine ⟨j, rfl, by have := hb.1; simpa using this, by have := hb.2; simpa using this, ?_⟩
      have w : WalkD X.K X.mg (fun G' _ => Same G1 G') (Itr 0 j.toNat) (rngD 0 j) := by
        have := @walk_r X.K X.mg 0 j.toNat (fun G' _ => Same G1 G')
        unfold rngD
        rw [Int.sub_zero]
        exact this
      exact Post.here O1 w P2
    · cases e2
  · cases e2
end
end Dl
namespace Dl
open PySem L2
inductive Out where
  | stuck
  | next (ρ : Rho) (ω : Om)
  | brk (ρ : Rho) (ω : Om)
  | cont (ρ : Rho) (ω : Om)
  | ret (x : SV) (ω : Om)
  | exc (x : Exn) (ρ : Rho) (ω : Om)
abbrev FS := Rho → Om → Out
def Res.out {β : Type} (r : Res β) (ρ : Rho) (k : β → Om → Out) : Out := match r with
  | .stuck => .stuck
  | .ok b ω => k b ω
  | .exc x ω => .exc x ρ ω
def Out.bind (r : Out) (k : Rho → Om → Out) : Out := match r with
  | .next ρ ω => k ρ ω
  | o => o
def PostS (K : PySem.W.Frag) (mg : MG) (G : Hp) (α : List Addr) (H : Hp) (D : Ends) (W : WX) : Out → Prop
  | .stuck => False
  | .next ρ' ω' => ∀ σ' G' α' H', Ext G α H G' α' H' → Own K mg G' α' ω' H' → Slots K mg G' α' ρ' σ' → D.nx σ' H'
  | .brk ρ' ω' => ∀ σ' G' α' H', Ext G α H G' α' H' → Own K mg G' α' ω' H' → Slots K mg G' α' ρ' σ' → D.bk σ' H'
  | .cont ρ' ω' => ∀ σ' G' α' H', Ext G α H G' α' H' → Own K mg G' α' ω' H' → Slots K mg G' α' ρ' σ' → D.ct σ' H'
  | .ret x ω' => ∀ v G' α' H', Ext G α H G' α' H' → Own K mg G' α' ω' H' → RepV K mg G' α' x v → D.rt v H'
  | .exc x ρ' ω' => ∀ c dd σ' G' α' H', Ext G α H G' α' H' → Own K mg G' α' ω' H' → Slots K mg G' α' ρ' σ' → RepX K mg G' x c dd → W c dd σ' H'
def Ds (X : Cx) (W : WX) (st : Stmt) (f : FS) : Prop :=
  ∃ t, PS X st t ∧ ∀ G α ρ ω σ H D, Own X.K X.mg G α ω H → Slots X.K X.mg G α ρ σ → PostS X.K X.mg G α H D W (f ρ ω) → t D σ H
def Dss (X : Cx) (W : WX) (st : List Stmt) (f : FS) : Prop :=
  ∃ t, PSs X st t ∧ ∀ G α ρ ω σ H D, Own X.K X.mg G α ω H → Slots X.K X.mg G α ρ σ → PostS X.K X.mg G α H D W (f ρ ω) → t D σ H
section
variable {K : PySem.W.Frag} {mg : MG} {G G1 H H1 : Hp} {α α1 : List Addr} {D D2 : Ends} {W : WX} {ω : Om} {ρ : Rho} {σ : St}
theorem PostS.weak {r : Out} (e : Ext G α H G1 α1 H1) (h : PostS K mg G α H D W r) : PostS K mg G1 α1 H1 D W r := by
  cases r with
  | stuck => exact h
  | next ρ' ω' => exact fun σ' G' α' H' e' O S => h σ' G' α' H' (e.trans e') O S
  | brk ρ' ω' => exact fun σ' G' α' H' e' O S => h σ' G' α' H' (e.trans e') O S
  | cont ρ' ω' => exact fun σ' G' α' H' e' O S => h σ' G' α' H' (e.trans e') O S
  | ret x ω' => exact fun v G' α' H' e' O q => h v G' α' H' (e.trans e') O q
  | exc x ρ' ω' => exact fun c dd σ' G' α' H' e' O S q => h c dd σ' G' α' H' (e.trans e') O S q
theorem PostS.step {β γ : Type} {R : Hp → List Addr → Hp → β → γ → Prop} {t : (γ → Hp → Prop) → Prop} {r : Res β} {g : β → Om → Out} {Q1 : γ → Hp → Prop} (S : Slots K mg G α ρ σ) (J : ∀ Q, Post K mg R G α H Q (fun c d H' => W c d σ H') r → t Q) (h : PostS K mg G α H D W (r.out ρ g))
    (k : ∀ b ω1 v G' α' H', Ext G α H G' α' H' → Own K mg G' α' ω1 H' → R G' α' H' b v → PostS K mg G' α' H' D W (g b ω1) → Q1 v H') : t Q1 := by
  cases r with
  | stuck => exact h.elim
  | ok b ω' => exact J Q1 fun v G' α' H' e O q => k b ω' v G' α' H' e O q (PostS.weak e h)
  | exc x ω' => exact J Q1 fun c dd G' α' H' e O q => h c dd σ G' α' H' e O (S.mono e) q
theorem PostS.here_nx {ρ' : Rho} {σ' : St} (O : Own K mg G α ω H) (S : Slots K mg G α ρ' σ') (h : PostS K mg G α H D W (.next ρ' ω)) : D.nx σ' H := h σ' G α H Ext.refl O S
end
section
variable {X : Cx} {W : WX} {st : Stmt} {rest : List Stmt} {f g : FS} {e c : Expr} {fe : FE D} {pos : Pos}
def sNext : FS := fun ρ ω => .next ρ ω
def sSeq (f g : FS) : FS := fun ρ ω => (f ρ ω).bind g
theorem dss_nil : Dss X W [] sNext := ⟨_, pss_nil, fun G α ρ ω σ H D O S P => P.here_nx O S⟩
theorem dss_cons (h1 : Ds X W st f) (h2 : Dss X W rest g) : Dss X W (st :: rest) (sSeq f g) := by
  obtain ⟨t, p, k⟩ := h1
  obtain ⟨u, p2, k2⟩ := h2
  refine ⟨_, pss_cons p p2, fun G α ρ ω σ H D O S P => ?_⟩
  refine k G α ρ ω σ H _ O S ?_
  unfold sSeq at P
  cases r : f ρ ω with
  | stuck => rw [r] at P; exact P
  | next ρ' ω' =>
    rw [r] at P
    exact fun σ' G' α' H' e' O' S' => k2 G' α' ρ' ω' σ' H' D O' S' (PostS.weak e' P)
  | brk ρ' ω' => rw [r] at P; exact P
  | cont ρ' ω' => rw [r] at P; exact P
  | ret x ω' => rw [r] at P; exact P
  | exc x ρ' ω' => rw [r] at P; exact P
theorem dss_one (h1 : Ds X W st f) : Dss X W [st] f := let ⟨t, p, k⟩ := h1; ⟨t, pss_one p, k⟩
def sBreak : FS := fun ρ ω => .brk ρ ω
def sCont : FS := fun ρ ω => .cont ρ ω
def sExpr (f : FE D) : FS := fun ρ ω => (f ρ ω).out ρ fun _ ω1 => .next ρ ω1
def sRet (f : FE D) : FS := fun ρ ω => (f ρ ω).out ρ fun d ω1 => .ret (.val d) ω1
theorem ds_expr (h : De X W e fe) (hs : swapsWith e none pos.line X.env = pure false := by rfl) : Ds X W (.Expr e pos) (sExpr fe) := by
  obtain ⟨t, p, k⟩ := h
  refine ⟨_, ps_expr p hs, fun G α ρ ω σ H D O S P => ?_⟩
  exact PostS.step S (t := t σ H) (k G α ρ ω σ H · O S) P fun d ω1 v G1 α1 H1 e1 O1 r1 P1 => P1.here_nx O1 (S.mono e1)
theorem ds_ret (h : De X W e fe) : Ds X W (.Return (some e) pos) (sRet fe) := by
  obtain ⟨t, p, k⟩ := h
  refine ⟨_, ps_ret p, fun G α ρ ω σ H D O S P => ?_⟩
  exact PostS.step S (t := t σ H) (k G α ρ ω σ H · O S) P fun d ω1 v G1 α1 H1 e1 O1 r1 P1 => P1 v G1 α1 H1 Ext.refl O1 r1
def sRetS (f : FE SV) : FS := fun ρ ω => (f ρ ω).out ρ fun x ω1 => .ret x ω1
def sRetN : FS := fun _ ω => .ret (.val .non) ω
def sIf (c : FE Bool) (f g : FS) : FS := fun ρ ω => (c ρ ω).out ρ fun b ω1 => if b = true then f ρ ω1 else g ρ ω1
theorem ds_if {a b : List Stmt} {fc : FE Bool} (hc : Dt X W c fc) (ha : Dss X W a f) (hb : Dss X W b g) : Ds X W (.If c a b pos) (sIf fc f g) := by
  obtain ⟨tc, pc, kc⟩ := hc
  obtain ⟨ta, pa, ka⟩ := ha
  obtain ⟨tb, pb, kb⟩ := hb
  refine ⟨_, ps_if pc pa pb, fun G α ρ ω σ H D O S P => ?_⟩
  refine PostS.step S (t := tc σ H) (kc G α ρ ω σ H · O S) P fun x ω1 v1 G1 α1 H1 e1 O1 r1 P1 => ?_
  cases r1
  cases x with
  | true => exact iteT (ka G1 α1 ρ ω1 σ H1 D O1 (S.mono e1) P1)
  | false => exact iteF (kb G1 α1 ρ ω1 σ H1 D O1 (S.mono e1) P1)
def sAsg (f : FE D) (tg : FG) : FS := fun ρ ω => (f ρ ω).out ρ fun d ω1 => match tg d ρ with
  | some ρ' => .next ρ' ω1
  | none => .stuck
abbrev sSet (i : Nat) (f : FE D) : FS := sAsg f (gN i)
theorem ds_asg {tg : Expr} {is : List Nat} {fg : FG} (h : De X W e fe) (hg : Dg X tg is fg) (hs : swapsWithSole [tg] e pos.line X.env = pure false := by rfl) (hw : swappedStores [tg] e X.env = pure none := by rfl)
    (h1 : (assignEach [tg] X.env).map (·.2) = [assign tg X.env] := by rfl) : Ds X W (.Assign [tg] e pos) (sAsg fe fg) := by
  obtain ⟨t, p, k⟩ := h
  obtain ⟨tg', pg, kg⟩ := hg
  refine ⟨_, ps_asg p pg hs hw h1, fun G α ρ ω σ H D O S P => ?_⟩
  refine PostS.step S (t := t σ H) (k G α ρ ω σ H · O S) P fun d ω1 v G1 α1 H1 e1 O1 r1 P1 => ?_
  refine kg G1 α1 ρ σ H1 d v _ O1.sub (S.mono e1) r1 ?_
  cases q : fg d ρ with
  | none => rw [q] at P1; exact P1
  | some ρ' => rw [q] at P1; exact fun σ' S' _ _ => P1.here_nx O1 S'
theorem ds_set {i : Nat} {x : Str} {pos' : Pos} (hN : X.N.Nodup) (h : De X W e fe) (hi : X.N[i]? = some x := by rfl) (hx : Loc X.env.scope x := by first | exact Or.inl rfl | exact Or.inr rfl) (hs : swapsWith e (some (.Name x pos')) pos.line X.env = pure false := by rfl)
    (hf : X.fn x = true ∨ X.env.scope.names.lookup x = some .local := by first | exact .inl rfl | exact .inr rfl) : Ds X W (.Assign [.Name x pos'] e pos) (sSet i fe) := by
  obtain ⟨t, p, k⟩ := h
  refine ⟨_, ps_set hN hi hx p hs hf, fun G α ρ ω σ H D O S P => ?_⟩
  refine PostS.step S (t := t σ H) (k G α ρ ω σ H · O S) P fun d ω1 v G1 α1 H1 e1 O1 r1 P1 => ?_
  exact P1.here_nx O1 ((S.mono e1).set i (x := .val d) r1)
def sSetS (i : Nat) (f : FE SV) : FS := fun ρ ω => (f ρ ω).out ρ fun x ω1 => .next (ρ.set i (some x)) ω1
theorem ds_setS {i : Nat} {x : Str} {pos' : Pos} {fv : FE SV} (hN : X.N.Nodup) (h : Dv X W e fv) (hi : X.N[i]? = some x := by rfl) (hx : Loc X.env.scope x := by first | exact Or.inl rfl | exact Or.inr rfl) (hs : swapsWith e (some (.Name x pos')) pos.line X.env = pure false := by rfl)
    (hf : X.fn x = true ∨ X.env.scope.names.lookup x = some .local := by first | exact .inl rfl | exact .inr rfl) : Ds X W (.Assign [.Name x pos'] e pos) (sSetS i fv) := by
  obtain ⟨t, p, k⟩ := h
  refine ⟨_, ps_set hN hi hx p hs hf, fun G α ρ ω σ H D O S P => ?_⟩
  refine PostS.step S (t := t σ H) (k G α ρ ω σ H · O S) P fun d ω1 v G1 α1 H1 e1 O1 r1 P1 => ?_
  exact P1.here_nx O1 ((S.mono e1).set i r1)
def sPar (i j : Nat) (f : FE (List SV)) : FS := fun ρ ω => (f ρ ω).out ρ fun xs ω1 => match xs with
  | [x, y] => .next ((ρ.set i (some x)).set j (some y)) ω1
  | _ => .stuck
theorem ds_par {i j : Nat} {x y : Str} {a b : Expr} {fa : FE (List SV)} {px py pt : Pos} {kt k2 pt2} (hc : X.calm = true) (hN : X.N.Nodup) (hij : i ≠ j) (ha : Da X W [a, b] fa)
    (hw : swappedStores [.Tuple [.Name x px, .Name y py] kt pt] (.Tuple [a, b] k2 pt2) X.env = pure (some [x, y]))
    (hi : X.N[i]? = some x := by rfl) (hj : X.N[j]? = some y := by rfl)
    (hx : X.env.scope.names.lookup x = some .local := by rfl) (hy : X.env.scope.names.lookup y = some .local := by rfl)
    (hs : swapsWithSole [.Tuple [.Name x px, .Name y py] kt pt] (.Tuple [a, b] k2 pt2) pos.line X.env = pure false := by rfl) :
    Ds X W (.Assign [.Tuple [.Name x px, .Name y py] kt pt] (.Tuple [a, b] k2 pt2) pos) (sPar i j fa) := by
  obtain ⟨t, p, k⟩ := ha
  refine ⟨_, ps_par hc hN hi hj hij hx hy p hw hs, fun G α ρ ω σ H D O S P => ?_⟩
  refine PostS.step S (t := t σ H) (k G α ρ ω σ H · O S) P fun xs ω1 vs G1 α1 H1 e1 O1 r1 P1 => ?_
  match xs, vs, r1, P1 with
  | [x, y], _, .cons q1 (.cons q2 .nil), P1 => exact ⟨_, _, rfl, P1.here_nx O1 (((S.mono e1).set i q1).set j q2)⟩
  | [], _, _, P1 => exact P1.elim
  | [_], _, _, P1 => exact P1.elim
  | _ :: _ :: _ :: _, _, _, P1 => exact P1.elim
def forL (tg : FG) (b : FS) : List D → Rho → Om → Out
  | [], ρ, ω => .next ρ ω
  | d :: ds, ρ, ω => match tg d ρ with
    | none => .stuck
    | some ρ1 => match b ρ1 ω with
      | .next ρ2 ω2 => forL tg b ds ρ2 ω2
      | .cont ρ2 ω2 => forL tg b ds ρ2 ω2
      | .brk ρ2 ω2 => .next ρ2 ω2
      | .ret x ω2 => .ret x ω2
      | .exc x ρ2 ω2 => .exc x ρ2 ω2
      | .stuck => .stuck
def sFor (it : FE (List D)) (tg : FG) (b : FS) : FS := fun ρ ω => (it ρ ω).out ρ fun ds ω1 => forL tg b ds ρ ω1
theorem for_post {tg : TG} {fg : FG} {is : List Nat} {tb : TS} {b : FS} {K : PySem.W.Frag} {mg : MG} {J : It} {ds : List D} {G0 H : Hp} {α : List Addr} {ρ : Rho} {ω : Om} {σ : St} {De : Ends}
    (kg : ∀ G α ρ σ H d v (Q : St → Hp → Prop), Same G H → Slots K mg G α ρ σ → Rep K mg G d v →
      (match fg d ρ with
        | none => False
        | some ρ' => ∀ σ', Slots K mg G α ρ' σ' → (∀ j, j ∉ is → σ'[j]? = σ[j]?) → σ'.length = σ.length → Q σ' H) → tg v σ H Q)
    (kb : ∀ G α ρ ω σ H D, Own K mg G α ω H → Slots K mg G α ρ σ → PostS K mg G α H D W (b ρ ω) → tb D σ H)
    (wk : WalkD K mg (fun G' _ => Same G0 G') J ds) (O : Own K mg G0 α ω H) (S : Slots K mg G0 α ρ σ) (P : PostS K mg G0 α H De W (forL fg b ds ρ ω)) :
    ∃ Wv : Nat → Nat → St → Hp → Prop, (∃ m, Wv 0 m σ H) ∧ ∀ i m σ H, Wv i m σ H →
      (J.stop i H ∧ De.nx σ H) ∨ (J.go i H ∧ ∃ N : St → Hp → Prop, (∀ σ' H', N σ' H' → ∃ m', m' < m ∧ Wv (i + 1) m' σ' H') ∧ ∀ x H', J.yld i H x H' → tg x σ H' fun σ2 H2 => tb { De with nx := N, ct := N, bk := De.nx } σ2 H2) := by
  refine ⟨fun i m σ H => m = ds.length - i ∧ i ≤ ds.length ∧ ∃ G α ρ ω, Same G0 G ∧ Own K mg G α ω H ∧ Slots K mg G α ρ σ ∧ PostS K mg G α H De W (forL fg b (ds.drop i) ρ ω), ⟨_, rfl, Nat.zero_le _, G0, α, ρ, ω, Same.refl _, O, S, P⟩, ?_⟩
  rintro i m σ H ⟨rfl, hi, G, α, ρ, ω, g, O, S, P⟩
  obtain ⟨w1, w2⟩ := wk i G H O.sub g
  by_cases hlt : i < ds.length
  · refine .inr ?_
    obtain ⟨go, yl⟩ := w1 ds[i] (List.getElem?_eq_getElem hlt)
    refine ⟨go, fun σ' H' => ∃ G α ρ ω, Same G0 G ∧ Own K mg G α ω H' ∧ Slots K mg G α ρ σ' ∧ PostS K mg G α H' De W (forL fg b (ds.drop (i + 1)) ρ ω), fun σ' H' q => ⟨ds.length - (i + 1), by omega, rfl, hlt, q⟩, fun x H' y => ?_⟩
    obtain ⟨G1, gr, r1⟩ := yl x H' y
    have O1 := O.grow gr
    have S1 := S.mono (gr.ext (α := α))
    have P1 := PostS.weak (gr.ext (α := α)) P
    rw [List.drop_eq_getElem_cons hlt] at P1
    unfold forL at P1
    refine kg G1 α ρ σ H' _ x _ O1.sub S1 r1 ?_
    cases q : fg ds[i] ρ with
    | none => rw [q] at P1; exact P1.elim
    | some ρ1 =>
      rw [q] at P1
      intro σ2 S2 _ _
      refine kb G1 α ρ1 ω σ2 H' _ O1 S2 ?_
      dsimp only at P1
      cases q2 : b ρ1 ω with
      | stuck => rw [q2] at P1; exact P1
      | next ρ2 ω2 =>
        rw [q2] at P1
        exact fun σ3 G3 α3 H3 e3 O3 S3 => ⟨G3, α3, ρ2, ω2, (g.trans gr.g).trans e3.g, O3, S3, PostS.weak e3 P1⟩
      | cont ρ2 ω2 =>
        rw [q2] at P1
        exact fun σ3 G3 α3 H3 e3 O3 S3 => ⟨G3, α3, ρ2, ω2, (g.trans gr.g).trans e3.g, O3, S3, PostS.weak e3 P1⟩
      | brk ρ2 ω2 => rw [q2] at P1; exact P1
      | ret x ω2 => rw [q2] at P1; exact P1
      | exc x ρ2 ω2 => rw [q2] at P1; exact P1
  · have e : i = ds.length := by omega
    subst e
    rw [List.drop_length] at P
    exact .inl ⟨w2 (Nat.le_refl _), P.here_nx O S⟩
theorem ds_for {tg iter : Expr} {body : List Stmt} {is : List Nat} {fi : FE (List D)} {fg : FG} {fb : FS} (hp : PassesOwn (model X.prog X.w) X.A X.env X.xe) (hc : X.calm = true) (hi : Di X W tg iter fi) (hg : Dg X tg is fg) (hb : Dss X W body fb)
    (hs : ∀ x, foldedSetIterable iter X.env x = pure x := by intro _; rfl) : Ds X W (.For tg iter body [] pos) (sFor fi fg fb) := by
  obtain ⟨wi, pi, ki⟩ := hi
  obtain ⟨tg', pg, kg⟩ := hg
  obtain ⟨tb, pb, kb⟩ := hb
  refine ⟨_, ps_for hp hc pi pg pb hs, fun G α ρ ω σ H D O S P => ?_⟩
  refine PostS.step S (t := wi σ H) (ki G α ρ ω σ H · O S) P fun ds ω1 J G1 α1 H1 e1 O1 w1 P1 => ?_
  exact for_post kg kb w1 O1 (S.mono e1) P1
def whileF (c : FE Bool) (b : FS) : Nat → Rho → Om → Out
  | 0, _, _ => .stuck
  | n + 1, ρ, ω => (c ρ ω).out ρ fun k ω1 => if k = true then (match b ρ ω1 with
      | .next ρ2 ω2 => whileF c b n ρ2 ω2
      | .cont ρ2 ω2 => whileF c b n ρ2 ω2
      | .brk ρ2 ω2 => .next ρ2 ω2
      | .ret x ω2 => .ret x ω2
      | .exc x ρ2 ω2 => .exc x ρ2 ω2
      | .stuck => .stuck) else .next ρ ω1
def sWhile (n : Nat) (c : FE Bool) (b : FS) : FS := whileF c b n
end
end Dl
namespace Dl
open PySem L2
def wipeR (ρ : Rho) : List Nat → Rho
  | [] => ρ
  | v :: vs => (wipeR ρ vs).set v none
def lcL (tg : FG) (tt : FE Bool) (el : FE D) (ρ : Rho) : List D → List D → Om → Res D
  | [], acc, ω => .ok (.lst acc) ω
  | d :: ds, acc, ω => match tg d ρ with
    | none => .stuck
    | some ρ1 => match tt ρ1 ω with
      | .ok true ω1 => match el ρ1 ω1 with
        | .ok y ω2 => if acc.length < lim then lcL tg tt el ρ ds (acc ++ [y]) ω2 else .stuck
        | _ => .stuck
      | .ok false ω1 => lcL tg tt el ρ ds acc ω1
      | _ => .stuck
def eLc (vs : List Nat) (it : FE (List D)) (tg : FG) (tt : FE Bool) (el : FE D) : FE D := fun ρ ω => (it ρ ω).bind fun ds ω1 => lcL tg tt el (wipeR ρ vs) ds [] ω1
abbrev W0 : WX := fun _ _ _ _ => False
def eTrue : FE Bool := fun _ ω => .ok true ω
def Dts (X : Cx) (W : WX) (ifs : List Expr) (f : FE Bool) : Prop :=
  ∃ t, PTs X ifs t ∧ ∀ G α ρ ω σ H Q, Own X.K X.mg G α ω H → Slots X.K X.mg G α ρ σ → Post X.K X.mg RB G α H Q (fun c d H' => W c d σ H') (f ρ ω) → t σ H Q
theorem dts_nil {X : Cx} {W : WX} : Dts X W [] eTrue := ⟨_, pts_nil, fun G α ρ ω σ H Q O S P => Post.here O rfl P⟩
theorem dts_one {X : Cx} {W : WX} {c : Expr} {f : FE Bool} (h : Dt X W c f) : Dts X W [c] f := let ⟨t, p, k⟩ := h; ⟨t, pts_one p, k⟩
section
variable {K : PySem.W.Frag} {mg : MG}
theorem Slots.setN {G : Hp} {α : List Addr} {ρ : Rho} {σ : St} (S : Slots K mg G α ρ σ) (i : Nat) : Slots K mg G α (ρ.set i none) (σ.set i none) := by
  refine ⟨by simp [S.len], fun j y e => ?_⟩
  by_cases q : i = j
  · subst q
    by_cases hl : i < ρ.length
    · rw [List.getElem?_set_self hl] at e; cases e
    · rw [List.getElem?_eq_none (by simp; omega)] at e; cases e
  · rw [List.getElem?_set_ne q] at e
    obtain ⟨w, h1, h2⟩ := S.val j y e
    exact ⟨w, by rw [List.getElem?_set_ne q]; exact h1, h2⟩
theorem Slots.wipe {G : Hp} {α : List Addr} {ρ : Rho} {σ : St} (S : Slots K mg G α ρ σ) : ∀ vs, Slots K mg G α (wipeR ρ vs) (L2.wipe σ vs)
  | [] => S
  | v :: vs => by unfold wipeR L2.wipe; exact (Slots.wipe S vs).setN v
theorem wipe_get (σ : St) : ∀ (vs : List Nat) (j : Nat), (L2.wipe σ vs)[j]? = if j ∈ vs then (if j < σ.length then some none else none) else σ[j]?
  | [], j => by simp [L2.wipe]
  | v :: vs, j => by
    unfold L2.wipe
    by_cases q : v = j
    · subst q
      by_cases hl : v < σ.length
      · rw [List.getElem?_set_self (by rw [wipe_length]; exact hl)]
        simp [hl]
      · rw [List.getElem?_eq_none (by simp [wipe_length]; omega)]
        simp [hl]
    · rw [List.getElem?_set_ne q, wipe_get σ vs j]
      have : j ≠ v := fun z => q z.symm
      simp [this]
theorem wipe_same {σ σ' : St} {vs is : List Nat} (hs : ∀ i ∈ is, i ∈ vs) (h : ∀ j, j ∉ is → σ'[j]? = (L2.wipe σ vs)[j]?) (hl : σ'.length = (L2.wipe σ vs).length) : L2.wipe σ' vs = L2.wipe σ vs := by
  rw [wipe_length] at hl
  refine List.ext_getElem? fun j => ?_
  rw [wipe_get, hl]
  by_cases q : j ∈ vs
  · rw [if_pos q, wipe_get, if_pos q]
  · rw [if_neg q, h j fun z => q (hs j z)]
structure Lies (K : PySem.W.Frag) (mg : MG) (G0 : Hp) (α0 : List Addr) (H0 : Hp) (L : Addr) (G : Hp) (α : List Addr) (ω : Om) (acc : List D) (H : Hp) : Prop where
  ext : Ext G0 α0 H0 G α H
  own : Own K mg G α ω H
  gl : G L = none
  na : L ∉ α
  at_ : ∃ vsa, H L = some (.lst vsa) ∧ Reps K mg G acc vsa
theorem Lies.step {G0 H0 G H G1 H1 : Hp} {α0 α α1 : List Addr} {L : Addr} {ω ω1 : Om} {acc : List D} (B : Lies K mg G0 α0 H0 L G α ω acc H) (e : Ext G α H G1 α1 H1) (O : Own K mg G1 α1 ω1 H1) : Lies K mg G0 α0 H0 L G1 α1 ω1 acc H1 := by
  obtain ⟨vsa, h1, h2⟩ := B.at_
  obtain ⟨more, e1, e2⟩ := e.pre
  refine ⟨B.ext.trans e, O, ?_, ?_, vsa, e.keep L _ h1 B.na, Reps.mono e.g _ _ h2⟩
  · cases q : G1 L with
    | none => rfl
    | some o =>
      rcases e.new L o q with z | z | z
      · rw [B.gl] at z; cases z
      · rw [h1] at z; cases z
      · exact absurd z B.na
  · rw [e1]
    intro z
    rcases List.mem_append.mp z with z | z
    · exact B.na z
    · rw [e2 L z] at h1; cases h1
theorem Ext.setL {G H G1 H1 : Hp} {α α1 : List Addr} {L : Addr} {o : HO} (e : Ext G α H G1 α1 H1) (hL : H L = none) : Ext G α H G1 α1 (L2.upd H1 L o) :=
  ⟨e.g, e.new, fun a u h n => by rw [upd_ne (ne_of_none h hL)]; exact e.keep a u h n, fun a u h => by rw [upd_ne (ne_of_none h hL)]; exact e.live a u h, e.pre⟩
theorem Own.setL {G H : Hp} {α : List Addr} {ω : Om} {L : Addr} {o : HO} (O : Own K mg G α ω H) (hg : G L = none) (na : L ∉ α) : Own K mg G α ω (L2.upd H L o) := by
  refine ⟨fun b u h => by rw [upd_ne (ne_of_none h hg)]; exact O.sub b u h, O.len, O.nd, fun a ha => ?_, fun k u a h1 h2 => ?_⟩
  · rw [upd_ne (fun z => na (by rw [← z]; exact ha))]
    exact O.ex a ha
  · obtain ⟨q1, q2⟩ := O.obj k u a h1 h2
    have : a ≠ L := fun z => na (by rw [← z]; exact List.mem_of_getElem? h2)
    exact ⟨q1, q2.mono (Same.refl _) (upd_ne this)⟩
theorem Lies.set {G0 H0 G H : Hp} {α0 α : List Addr} {L : Addr} {ω : Om} {acc acc' : List D} {vs : List V} (B : Lies K mg G0 α0 H0 L G α ω acc H) (h0 : H0 L = none) (r : Reps K mg G acc' vs) : Lies K mg G0 α0 H0 L G α ω acc' (L2.upd H L (.lst vs)) :=
  ⟨B.ext.setL h0, B.own.setL B.gl B.na, B.gl, B.na, vs, upd_same, r⟩
theorem Lies.freeze {G0 H0 G H : Hp} {α0 α : List Addr} {L : Addr} {ω : Om} {acc : List D} (B : Lies K mg G0 α0 H0 L G α ω acc H) (h0 : H0 L = none) : ∃ G', Ext G0 α0 H0 G' α H ∧ Own K mg G' α ω H ∧ Rep K mg G' (.lst acc) (.ref L) := by
  obtain ⟨vsa, h1, h2⟩ := B.at_
  have sg : Same G (L2.upd G L (.lst vsa)) := Same.upd B.gl
  refine ⟨L2.upd G L (.lst vsa), ⟨B.ext.g.trans sg, fun a o h => ?_, B.ext.keep, B.ext.live, B.ext.pre⟩, ⟨fun b u h => ?_, B.own.len, B.own.nd, B.own.ex, fun k u a h3 h4 => ?_⟩, rep_newL (H := H) B.gl h2⟩
  · by_cases z : a = L
    · subst z; exact .inr (.inl h0)
    · rw [upd_ne z] at h; exact B.ext.new a o h
  · by_cases z : b = L
    · subst z; rw [upd_same] at h; cases h; exact h1
    · rw [upd_ne z] at h; exact B.own.sub b u h
  · obtain ⟨q1, q2⟩ := B.own.obj k u a h3 h4
    have : a ≠ L := fun z => B.na (by rw [← z]; exact List.mem_of_getElem? h4)
    exact ⟨by rw [upd_ne this]; exact q1, q2.mono sg rfl⟩
theorem lc_post {tg : TG} {fg : FG} {is vs : List Nat} {tt : TT} {ft : FE Bool} {te : TE} {fe : FE D} {J : It} {ds : List D} {G0 H : Hp} {α0 : List Addr} {ρ : Rho} {ω : Om} {σ : St} {Q : VK} {E : XK} (hsub : ∀ i ∈ is, i ∈ vs)
    (kg : ∀ G α ρ σ H d v (Q : St → Hp → Prop), Same G H → Slots K mg G α ρ σ → Rep K mg G d v →
      (match fg d ρ with
        | none => False
        | some ρ' => ∀ σ', Slots K mg G α ρ' σ' → (∀ j, j ∉ is → σ'[j]? = σ[j]?) → σ'.length = σ.length → Q σ' H) → tg v σ H Q)
    (kt : ∀ G α ρ ω σ H Q, Own K mg G α ω H → Slots K mg G α ρ σ → Post K mg RB G α H Q (fun _ _ _ => False) (ft ρ ω) → tt σ H Q)
    (ke : ∀ G α ρ ω σ H Q, Own K mg G α ω H → Slots K mg G α ρ σ → Post K mg (RD K mg) G α H Q (fun _ _ _ => False) (fe ρ ω) → te σ H Q)
    (wk : WalkD K mg (fun G' _ => Same G0 G') J ds) (O : Own K mg G0 α0 ω H) (S : Slots K mg G0 α0 ρ σ) (P : Post K mg (RD K mg) G0 α0 H Q E (lcL fg ft fe (wipeR ρ vs) ds [] ω)) (L : Addr) (hL : H L = none) :
    ∃ Wv : Nat → Nat → Hp → Prop, (∃ m, Wv 0 m (L2.upd H L (.lst []))) ∧ ∀ i m H, Wv i m H →
      (J.stop i H ∧ Q (.ref L) H) ∨ (J.go i H ∧ ∃ Nx : Hp → Prop, (∀ H', Nx H' → ∃ m', m' < m ∧ Wv (i + 1) m' H') ∧ ∀ x H', J.yld i H x H' → tg x (L2.wipe σ vs) H' fun σ2 H2 => L2.wipe σ2 vs = L2.wipe σ vs ∧ tt σ2 H2 fun b H3 =>
        if b = true then te σ2 H3 fun y H4 => ∃ acc, H4 L = some (.lst acc) ∧ acc.length < sizeLine ∧ Nx (L2.upd H4 L (.lst (acc ++ [y]))) else Nx H3) := by
  have hnα : L ∉ α0 := fun z => by obtain ⟨o, h⟩ := O.ex L z; rw [hL] at h; cases h
  refine ⟨fun i m H' => m = ds.length - i ∧ i ≤ ds.length ∧ ∃ G α ω acc, Lies K mg G0 α0 H L G α ω acc H' ∧ Post K mg (RD K mg) G0 α0 H Q E (lcL fg ft fe (wipeR ρ vs) (ds.drop i) acc ω), ⟨_, rfl, Nat.zero_le _, G0, α0, ω, [], ⟨?_, ?_, O.sub.free hL, hnα, [], upd_same, reps_nil.mpr rfl⟩, P⟩, ?_⟩
  · exact (Grow.side (o := .lst []) O.sub hL).ext
  · exact O.grow (Grow.side O.sub hL)
  rintro i m H' ⟨rfl, hi, G, α, ω, acc, B, P⟩
  obtain ⟨w1, w2⟩ := wk i G H' B.own.sub B.ext.g
  by_cases hlt : i < ds.length
  · refine .inr ?_
    obtain ⟨go, yl⟩ := w1 ds[i] (List.getElem?_eq_getElem hlt)
    refine ⟨go, fun H' => ∃ G α ω acc, Lies K mg G0 α0 H L G α ω acc H' ∧ Post K mg (RD K mg) G0 α0 H Q E (lcL fg ft fe (wipeR ρ vs) (ds.drop (i + 1)) acc ω), fun H' q => ⟨ds.length - (i + 1), by omega, rfl, hlt, q⟩, fun x H1 y => ?_⟩
    obtain ⟨G1, gr, r1⟩ := yl x H1 y
    have B1 := B.step (gr.ext (α := α)) (B.own.grow gr)
    rw [List.drop_eq_getElem_cons hlt] at P
    unfold lcL at P
    have S1 : Slots K mg G1 α (wipeR ρ vs) (L2.wipe σ vs) := (S.mono B1.ext).wipe vs
    refine kg G1 α _ _ H1 _ x _ B1.own.sub S1 r1 ?_
    cases q : fg ds[i] (wipeR ρ vs) with
    | none => rw [q] at P; exact P.elim
    | some ρ1 =>
      rw [q] at P
      intro σ2 S2 c2 l2
      refine ⟨wipe_same hsub c2 l2, kt G1 α ρ1 ω σ2 H1 _ B1.own S2 ?_⟩
      dsimp only at P
      cases q2 : ft ρ1 ω with
      | stuck => rw [q2] at P; exact P.elim
      | exc x ω1 => rw [q2] at P; exact P.elim
      | ok b ω1 =>
        rw [q2] at P
        intro b' G2 α2 H2 e2 O2 r2
        cases r2
        have B2 := B1.step e2 O2
        cases b with
        | false => exact iteF ⟨G2, α2, ω1, acc, B2, P⟩
        | true =>
          refine iteT (ke G2 α2 ρ1 ω1 σ2 H2 _ O2 (S2.mono e2) ?_)
          dsimp only at P
          cases q3 : fe ρ1 ω1 with
          | stuck => rw [q3] at P; exact P.elim
          | exc x ω2 => rw [q3] at P; exact P.elim
          | ok yd ω2 =>
            rw [q3] at P
            dsimp only at P
            split at P
            · rename_i hlim
              intro v G3 α3 H3 e3 O3 r3
              have B3 := B2.step e3 O3
              obtain ⟨vsa, h5, h6⟩ := B3.at_
              exact ⟨vsa, h5, by rw [lim_eq, h6.length]; exact hlim, G3, α3, ω2, acc ++ [yd], B3.set hL (h6.append (Reps.one r3)), P⟩
            · exact P.elim
  · have e : i = ds.length := by omega
    subst e
    rw [List.drop_length] at P
    obtain ⟨G', e', O', r'⟩ := B.freeze hL
    exact .inl ⟨w2 (Nat.le_refl _), P _ G' α H' e' O' r'⟩
end
def tcE (K : PySem.W.Frag) (mg : MG) (W : WX) (f : FE D) : TE := fun σ H Q => ∃ G α ρ ω, Own K mg G α ω H ∧ Slots K mg G α ρ σ ∧ Post K mg (RD K mg) G α H Q (fun c d H' => W c d σ H') (f ρ ω)
def tcT (K : PySem.W.Frag) (mg : MG) (W : WX) (f : FE Bool) : TT := fun σ H Q => ∃ G α ρ ω, Own K mg G α ω H ∧ Slots K mg G α ρ σ ∧ Post K mg RB G α H Q (fun c d H' => W c d σ H') (f ρ ω)
def tcG (K : PySem.W.Frag) (mg : MG) (is : List Nat) (f : FG) : TG := fun v σ H Q => ∃ G α ρ d, Same G H ∧ Slots K mg G α ρ σ ∧ Rep K mg G d v ∧
  (match f d ρ with
    | none => False
    | some ρ' => ∀ σ', Slots K mg G α ρ' σ' → (∀ j, j ∉ is → σ'[j]? = σ[j]?) → σ'.length = σ.length → Q σ' H)
theorem can_e {X : Cx} {W : WX} {e : Expr} {f : FE D} (h : De X W e f) : PE X e (tcE X.K X.mg W f) := by
  obtain ⟨t, p, k⟩ := h
  exact ⟨fun pins s σ H Q I ⟨G, α, ρ, ω, O, S, P⟩ => p.run pins s σ H Q I (k G α ρ ω σ H Q O S P)⟩
theorem can_ts {X : Cx} {W : WX} {es : List Expr} {f : FE Bool} (h : Dts X W es f) : PTs X es (tcT X.K X.mg W f) := by
  obtain ⟨t, p, k⟩ := h
  exact ⟨fun pins s σ H Q I ⟨G, α, ρ, ω, O, S, P⟩ => p.run pins s σ H Q I (k G α ρ ω σ H Q O S P)⟩
theorem can_g {X : Cx} {e : Expr} {is : List Nat} {f : FG} (h : Dg X e is f) : PG X e (tcG X.K X.mg is f) := by
  obtain ⟨t, p, k⟩ := h
  exact ⟨fun pins s σ H v u Q I r ⟨G, α, ρ, d, h1, S, r1, P⟩ => p.run pins s σ H v u Q I r (k G α ρ σ H d v Q h1 S r1 P)⟩
section
variable {X : Cx} {W : WX} {pos : Pos}
theorem lc_read {K : PySem.W.Frag} {mg : MG} {wi : TI} {vs is : List Nat} {fi : FE (List D)} {fg : FG} {ft : FE Bool} {fe : FE D} (hsub : ∀ i ∈ is, i ∈ vs)
    (ki : ∀ G α ρ ω σ H (R : It → Hp → Prop), Own K mg G α ω H → Slots K mg G α ρ σ → Post K mg (RI K mg) G α H R (fun c d H' => W c d σ H') (fi ρ ω) → wi σ H R)
    (G α ρ ω σ H Q) (O : Own K mg G α ω H) (S : Slots K mg G α ρ σ) (P : Post K mg (RD K mg) G α H Q (fun c d H' => W c d σ H') (eLc vs fi fg ft fe ρ ω)) : tLc wi (tcG K mg is fg) (tcT K mg W0 ft) (tcE K mg W0 fe) vs σ H Q := by
  refine Post.step (t := wi σ H) (ki G α ρ ω σ H · O S) P fun ds ω1 J G1 α1 H1 e1 O1 w1 P1 => ?_
  intro L hL
  exact lc_post hsub (fun G α ρ σ H d v Q s S r h => ⟨G, α, ρ, d, s, S, r, h⟩) (fun G α ρ ω σ H Q O S P => ⟨G, α, ρ, ω, O, S, P⟩) (fun G α ρ ω σ H Q O S P => ⟨G, α, ρ, ω, O, S, P⟩) w1 O1 (S.mono e1) P1 L hL
theorem de_lc {elt tg iter : Expr} {ifs : List Expr} {scope : Scope} {own : List (Str × Nat)} {is : List Nat} {fi : FE (List D)} {fg : FG} {ft : FE Bool} {fe : FE D} (hc : X.calm = true) (hN : X.N.Nodup) (hi : Di X W tg iter fi) (ok : BlkOk X.N X.env.scope scope own)
    (hg : ∀ (s : Shared) (H : Hp) (C : Addr) (cl : List (Str × Addr)) (fp : List Addr), Dg (X.blk s H scope (compEnvC scope cl C X.env) fp) tg is fg) (ht : ∀ (s : Shared) (H : Hp) (C : Addr) (cl : List (Str × Addr)) (fp : List Addr), Dts (X.blk s H scope (compEnvC scope cl C X.env) fp) W0 ifs ft)
    (he : ∀ (s : Shared) (H : Hp) (C : Addr) (cl : List (Str × Addr)) (fp : List Addr), De (X.blk s H scope (compEnvC scope cl C X.env) fp) W0 elt fe) (hsub : ∀ i ∈ is, i ∈ own.map (·.2)) (hs : ∀ x, foldedSetIterable iter X.env x = pure x := by intro _; rfl) :
    De X W (.ListComp elt [⟨tg, iter, ifs, 0⟩] scope pos) (eLc (own.map (·.2)) fi fg ft fe) := by
  obtain ⟨wi, pi, ki⟩ := hi
  exact ⟨_, pe_lc (g := tcG X.K X.mg is fg) (tt := tcT X.K X.mg W0 ft) (te := tcE X.K X.mg W0 fe) hc hN pi ok (fun s H C cl fp => can_g (hg s H C cl fp)) (fun s H C cl fp => can_ts (ht s H C cl fp)) (fun s H C cl fp => can_e (he s H C cl fp)) hs, lc_read hsub ki⟩
theorem ds_setLc {i : Nat} {y : Str} {py spos : Pos} {elt tg iter : Expr} {ifs : List Expr} {scope : Scope} {own : List (Str × Nat)} {is : List Nat} {fi : FE (List D)} {fg : FG} {ft : FE Bool} {fe : FE D} (hc : X.calm = true) (hN : X.N.Nodup) (hsw : swapsWith (.ListComp elt [⟨tg, iter, ifs, 0⟩] scope pos) (some (.Name y py)) spos.line X.env = pure true) (hi : Di X W tg iter fi) (ok : BlkOk X.N X.env.scope scope own)
    (hg : ∀ (s : Shared) (H : Hp) (C : Addr) (cl : List (Str × Addr)) (fp : List Addr), Dg (X.blk s H scope (compEnvC scope cl C X.env) fp) tg is fg) (ht : ∀ (s : Shared) (H : Hp) (C : Addr) (cl : List (Str × Addr)) (fp : List Addr), Dts (X.blk s H scope (compEnvC scope cl C X.env) fp) W0 ifs ft)
    (he : ∀ (s : Shared) (H : Hp) (C : Addr) (cl : List (Str × Addr)) (fp : List Addr), De (X.blk s H scope (compEnvC scope cl C X.env) fp) W0 elt fe) (hsub : ∀ i ∈ is, i ∈ own.map (·.2)) (hy : X.N[i]? = some y := by rfl) (hyl : X.env.scope.names.lookup y = some .local := by rfl) (hs : ∀ x, foldedSetIterable iter X.env x = pure x := by intro _; rfl) :
    Ds X W (.Assign [.Name y py] (.ListComp elt [⟨tg, iter, ifs, 0⟩] scope pos) spos) (sSet i (eLc (own.map (·.2)) fi fg ft fe)) := by
  obtain ⟨wi, pi, ki⟩ := hi
  refine ⟨_, ps_setLc (g := tcG X.K X.mg is fg) (tt := tcT X.K X.mg W0 ft) (te := tcE X.K X.mg W0 fe) hc hN hy hyl hsw pi ok (fun s H C cl fp => can_g (hg s H C cl fp)) (fun s H C cl fp => can_ts (ht s H C cl fp)) (fun s H C cl fp => can_e (he s H C cl fp)) hs, fun G α ρ ω σ H D O S P => ?_⟩
  refine PostS.step S (t := tLc wi (tcG X.K X.mg is fg) (tcT X.K X.mg W0 ft) (tcE X.K X.mg W0 fe) (own.map (·.2)) σ H) (lc_read hsub ki G α ρ ω σ H · O S) P fun d ω1 v G1 α1 H1 e1 O1 r1 P1 => ?_
  exact P1.here_nx O1 ((S.mono e1).set i (x := .val d) r1)
end
end Dl
namespace Dl
open PySem L2
section
variable {K : PySem.W.Frag} {mg : MG} {G H : Hp} {α : List Addr} {ω : Om}
theorem Own.na (O : Own K mg G α ω H) {p : Addr} (h : H p = none) : p ∉ α := fun z => by obtain ⟨o, q⟩ := O.ex p z; rw [h] at q; cases q
theorem Own.new {p : Addr} {u : HO} {o : OD} (O : Own K mg G α ω H) (hp : H p = none) (r : OwnAt K mg G (L2.upd H p u) p o) : Own K mg G (α ++ [p]) (ω ++ [some o]) (L2.upd H p u) ∧ Ext G α H G (α ++ [p]) (L2.upd H p u) := by
  have na := O.na hp
  refine ⟨⟨O.sub.trans (Same.upd hp), by simp [O.len], ?_, fun a ha => ?_, fun k o' a h1 h2 => ?_⟩, ⟨Same.refl _, fun _ _ h => .inl h, fun a o h _ => Same.upd hp a o h, fun a o h => ⟨o, Same.upd hp a o h⟩, [p], rfl, fun a ha => by rw [List.mem_singleton.mp ha]; exact hp⟩⟩
  · rw [List.nodup_append]
    refine ⟨O.nd, by simp, fun a ha b hb z => ?_⟩
    rw [List.mem_singleton.mp hb] at z
    exact na (z ▸ ha)
  · rcases List.mem_append.mp ha with h | h
    · obtain ⟨u', q⟩ := O.ex a h
      exact ⟨u', Same.upd hp a u' q⟩
    · rw [List.mem_singleton.mp h]; exact ⟨u, upd_same⟩
  · by_cases hk : k < ω.length
    · rw [List.getElem?_append_left hk] at h1
      rw [List.getElem?_append_left (by rw [O.len]; exact hk)] at h2
      obtain ⟨q1, q2⟩ := O.obj k o' a h1 h2
      have : a ≠ p := fun z => na (z ▸ List.mem_of_getElem? h2)
      exact ⟨q1, q2.mono (Same.refl _) (upd_ne this)⟩
    · have hk' : k = ω.length := by
        have := (List.getElem?_eq_some_iff.mp h1).1
        simp at this; omega
      subst hk'
      rw [List.getElem?_append_right (Nat.le_refl _)] at h1
      rw [List.getElem?_append_right (by rw [O.len]; exact Nat.le_refl _), O.len] at h2
      simp at h1 h2
      subst h1 h2
      exact ⟨O.sub.free hp, r⟩
theorem Own.put {a : Addr} {k : Nat} {u : HO} {o o' : OD} (O : Own K mg G α ω H) (h1 : ω[k]? = some (some o)) (h2 : α[k]? = some a) (r : OwnAt K mg G (L2.upd H a u) a o') : Own K mg G α (ω.set k (some o')) (L2.upd H a u) ∧ Ext G α H G α (L2.upd H a u) := by
  have ma := List.mem_of_getElem? h2
  obtain ⟨hg, _⟩ := O.obj k o a h1 h2
  refine ⟨⟨fun b v h => ?_, by simp [O.len], O.nd, fun b hb => ?_, fun j o2 b h3 h4 => ?_⟩, ⟨Same.refl _, fun _ _ h => .inl h, fun b o h n => ?_, fun b o h => ?_, [], by simp, by simp⟩⟩
  · rw [upd_ne (ne_of_none h hg)]; exact O.sub b v h
  · by_cases z : b = a
    · subst z; exact ⟨u, upd_same⟩
    · rw [upd_ne z]; exact O.ex b hb
  · by_cases z : k = j
    · subst z
      rw [h2] at h4; cases h4
      rw [List.getElem?_set_self (List.getElem?_eq_some_iff.mp h1).1] at h3
      cases h3
      exact ⟨hg, r⟩
    · rw [List.getElem?_set_ne z] at h3
      obtain ⟨q1, q2⟩ := O.obj j o2 b h3 h4
      have : b ≠ a := fun y => z ((List.getElem?_inj (List.getElem?_eq_some_iff.mp h2).1 O.nd).mp (by rw [h2, h4, y]))
      exact ⟨q1, q2.mono (Same.refl _) (upd_ne this)⟩
  · rw [upd_ne (fun z : b = a => n (by rw [z]; exact ma))]; exact h
  · by_cases z : b = a
    · subst z; exact ⟨u, upd_same⟩
    · rw [upd_ne z]; exact ⟨o, h⟩
theorem Own.freeze {a : Addr} {k : Nat} {u : HO} {o : OD} (O : Own K mg G α ω H) (h1 : ω[k]? = some (some o)) (h2 : α[k]? = some a) (hu : H a = some u) : Own K mg (L2.upd G a u) α (ω.set k none) H ∧ Ext G α H (L2.upd G a u) α H ∧ G a = none := by
  have ma := List.mem_of_getElem? h2
  obtain ⟨hg, _⟩ := O.obj k o a h1 h2
  refine ⟨⟨fun b v h => ?_, by simp [O.len], O.nd, O.ex, fun j o2 b h3 h4 => ?_⟩, ⟨Same.upd hg, fun b v h => ?_, fun b o h n => h, fun b o h => ⟨o, h⟩, [], by simp, by simp⟩, hg⟩
  · by_cases z : b = a
    · subst z; rw [upd_same] at h; cases h; exact hu
    · rw [upd_ne z] at h; exact O.sub b v h
  · by_cases z : k = j
    · subst z
      rw [List.getElem?_set_self (List.getElem?_eq_some_iff.mp h1).1] at h3
      cases h3
    · rw [List.getElem?_set_ne z] at h3
      obtain ⟨q1, q2⟩ := O.obj j o2 b h3 h4
      have : b ≠ a := fun y => z ((List.getElem?_inj (List.getElem?_eq_some_iff.mp h2).1 O.nd).mp (by rw [h2, h4, y]))
      exact ⟨by rw [upd_ne this]; exact q1, q2.mono (Same.upd hg) rfl⟩
  · by_cases z : b = a
    · subst z; exact .inr (.inr ma)
    · rw [upd_ne z] at h; exact .inl h
theorem Own.nil (s : Same G H) : Own K mg G [] [] H := ⟨s, rfl, List.nodup_nil, by simp, by simp⟩
end
section
variable {X : Cx} {W : WX} {e : Expr} {fe : FE D} {pos : Pos}
def sNewL (i : Nat) (g : FE (List SV)) : FS := fun ρ ω => (g ρ ω).out ρ fun xs ω1 => match allD xs with
  | some ds => if xs.length ≤ lim then .next (ρ.set i (some (.own ω1.length))) (ω1 ++ [some (.lst ds)]) else .stuck
  | none => .stuck
theorem ds_newL {i : Nat} {x : Str} {pos' p1 : Pos} {es : List Expr} {g : FE (List SV)} (hN : X.N.Nodup) (h : Da X W es g) (hi : X.N[i]? = some x := by rfl) (hx : Loc X.env.scope x := by first | exact Or.inl rfl | exact Or.inr rfl) (hs : swapsWith (.List es p1) (some (.Name x pos')) pos.line X.env = pure false := by rfl)
    (hf : X.fn x = true ∨ X.env.scope.names.lookup x = some .local := by first | exact .inl rfl | exact .inr rfl) : Ds X W (.Assign [.Name x pos'] (.List es p1) pos) (sNewL i g) := by
  obtain ⟨t, p, k⟩ := h
  refine ⟨_, ps_set hN hi hx (pe_lst p) hs hf, fun G α ρ ω σ H D O S P => ?_⟩
  refine PostS.step S (t := t σ H) (k G α ρ ω σ H · O S) P fun xs ω1 vs G1 α1 H1 e1 O1 r1 P1 => ?_
  cases q : allD xs with
  | none => rw [q] at P1; exact P1.elim
  | some ds =>
    rw [q] at P1
    dsimp only at P1
    split at P1
    · rename_i hl
      have hr := allD_reps q r1
      refine ⟨by rw [lim_eq, ← RepVs.length r1]; exact hl, fun a ha => ?_⟩
      obtain ⟨O2, e2⟩ := O1.new (u := .lst vs) (o := .lst ds) ha ⟨vs, upd_same, hr⟩
      refine P1 _ G1 _ _ e2 O2 (((S.mono e1).mono e2).set i ⟨a, ?_, rfl⟩)
      rw [← O1.len, List.getElem?_append_right (Nat.le_refl _)]
      simp
    · exact P1.elim
def ownK (ρ : Rho) (i : Nat) : Option Nat := match ρ[i]? with
  | some (some (.own k)) => some k
  | _ => none
def ownL (ω : Om) (k : Nat) : Option (List D) := match ω[k]? with
  | some (some (.lst ds)) => some ds
  | _ => none
theorem ownK_eq {ρ : Rho} {i k : Nat} (h : ownK ρ i = some k) : ρ[i]? = some (some (.own k)) := by
  unfold ownK at h
  split at h
  · rename_i k' e; cases h; exact e
  · cases h
theorem ownL_eq {ω : Om} {k : Nat} {ds : List D} (h : ownL ω k = some ds) : ω[k]? = some (some (.lst ds)) := by
  unfold ownL at h
  split at h
  · rename_i k' e; cases h; exact e
  · cases h
def sApp (i : Nat) (f : FE D) : FS := fun ρ ω => match ownK ρ i with
  | none => .stuck
  | some k => match ownL ω k with
    | none => .stuck
    | some _ => (f ρ ω).out ρ fun d ω1 => match ownL ω1 k with
      | none => .stuck
      | some ds => if ds.length < lim then .next ρ (ω1.set k (some (.lst (ds ++ [d])))) else .stuck
theorem ds_app (i : Nat) {x : Str} {p1 p2 p3 p4 : Pos} (h : De X W e fe) (hN : X.N[i]? = some x := by rfl) (hv : Vis X.env.scope x := by first | exact Or.inl rfl | exact Or.inr (Or.inl rfl) | exact Or.inr (Or.inr rfl)) (hd : (x == ("__debug__" : Str)) = false := by decide)
    (hcd : (x == ("__classdict__" : Str)) = false := by decide) (hs2 : starEach (e :: []) X.env = (false, eval e X.env) :: starEach [] X.env := by rfl)
    (hsw : swapsWith (.Call (.Attribute (.Name x p1) "append" p2) [e] [] p3) none p4.line X.env = pure false := by rfl)
    (hpe : ∀ (to t : _), PE X (.Name x p1) to → PA X [e] t → PE X (.Call (.Attribute (.Name x p1) "append" p2) [e] [] p3) (tBM X.K "list" rAppend to t) := by
      intro to t ho ha
      exact pe_bm PySem.F.plainAttrs_list PySem.F.slot_list_append PySem.F.type_list_append mt_append ho ha) :
    Ds X W (.Expr (.Call (.Attribute (.Name x p1) "append" p2) [e] [] p3) p4) (sApp i fe) := by
  obtain ⟨t, p, k⟩ := h
  refine ⟨_, ps_expr (hpe _ _ (pe_var hN hv hd hcd) (pa_cons p pa_nil hs2)) hsw, fun G α ρ ω σ H D O S P => ?_⟩
  unfold sApp at P
  cases q1 : ownK ρ i with
  | none => rw [q1] at P; exact P.elim
  | some kk =>
    rw [q1] at P; dsimp only at P
    cases q2 : ownL ω kk with
    | none => rw [q2] at P; exact P.elim
    | some ds0 =>
      rw [q2] at P; dsimp only at P
      obtain ⟨v, h1, a, h2, rfl⟩ := S.val i _ (ownK_eq q1)
      obtain ⟨_, vs0, h3, _⟩ := O.obj kk _ a (ownL_eq q2) h2
      refine ⟨_, h1, .inl ⟨rfl, vs0, SqL.of h3⟩, ?_⟩
      refine PostS.step S (t := t σ H) (k G α ρ ω σ H · O S) P fun d ω1 v1 G1 α1 H1 e1 O1 r1 P1 => ?_
      cases q3 : ownL ω1 kk with
      | none => rw [q3] at P1; exact P1.elim
      | some ds =>
        rw [q3] at P1; dsimp only at P1
        split at P1
        · rename_i hl
          obtain ⟨more, e2, _⟩ := e1.pre
          have h2' : α1[kk]? = some a := by rw [e2, List.getElem?_append_left (List.getElem?_eq_some_iff.mp h2).1]; exact h2
          obtain ⟨_, vs, h5, h6⟩ := O1.obj kk _ a (ownL_eq q3) h2'
          refine ⟨a, vs, v1, rfl, rfl, h5, by rw [lim_eq, h6.length]; exact hl, ?_⟩
          obtain ⟨O2, e3⟩ := O1.put (u := .lst (vs ++ [v1])) (o' := .lst (ds ++ [d])) (ownL_eq q3) h2' ⟨_, upd_same, h6.append (Reps.one r1)⟩
          exact P1 _ G1 α1 _ e3 O2 ((S.mono e1).mono e3)
        · exact P1.elim
def sSetIx (i : Nat) (fi fe : FE D) : FS := fun ρ ω => (fe ρ ω).out ρ fun d ω1 => match ownK ρ i with
  | none => .stuck
  | some k => (fi ρ ω1).out ρ fun z ω2 => match z, ownL ω2 k with
    | .int n, some ds => match ixN ds.length n with
      | some j => .next ρ (ω2.set k (some (.lst (ds.set j d))))
      | none => .stuck
    | _, _ => .stuck
theorem ds_setIx (i : Nat) {x : Str} {p1 p2 : Pos} {ei : Expr} {fi : FE D} (hi : De X W ei fi) (h : De X W e fe) (hN : X.N[i]? = some x := by rfl) (hv : Vis X.env.scope x := by first | exact Or.inl rfl | exact Or.inr (Or.inl rfl) | exact Or.inr (Or.inr rfl)) (hd : (x == ("__debug__" : Str)) = false := by decide)
    (hcd : (x == ("__classdict__" : Str)) = false := by decide) (hs : swapsWithSole [.Subscript (.Name x p1) ei p2] e pos.line X.env = pure false := by rfl) (hw : swappedStores [.Subscript (.Name x p1) ei p2] e X.env = pure none := by rfl)
    (h1 : (assignEach [.Subscript (.Name x p1) ei p2] X.env).map (·.2) = [assign (.Subscript (.Name x p1) ei p2) X.env] := by rfl)
    (ha : ∀ v, assign (.Subscript (.Name x p1) ei p2) X.env v = (do
      let ov ← holding [v] (eval (.Name x p1) X.env)
      let iv ← holding [v, ov] (eval ei X.env)
      standAt p2
      holding [v, ov, iv] (setItem ov iv v)
      release [v, ov, iv] []) := by intro _; rfl) : Ds X W (.Assign [.Subscript (.Name x p1) ei p2] e pos) (sSetIx i fi fe) := by
  obtain ⟨t, p, k⟩ := h
  obtain ⟨ti, pi, ki⟩ := hi
  refine ⟨_, ps_asg p (pg_sub (pe_var hN hv hd hcd) pi set_list ha) hs hw h1, fun G α ρ ω σ H D O S P => ?_⟩
  refine PostS.step S (t := t σ H) (k G α ρ ω σ H · O S) P fun d ω1 v1 G1 α1 H1 e1 O1 r1 P1 => ?_
  cases q1 : ownK ρ i with
  | none => rw [q1] at P1; exact P1.elim
  | some kk =>
    rw [q1] at P1; dsimp only at P1
    obtain ⟨v, h1, a, h2, rfl⟩ := (S.mono e1).val i _ (ownK_eq q1)
    refine ⟨_, h1, ?_⟩
    refine PostS.step (S.mono e1) (t := ti σ H1) (ki G1 α1 ρ ω1 σ H1 · O1 (S.mono e1)) P1 fun z ω2 v2 G2 α2 H2 e2 O2 r2 P2 => ?_
    cases z with
    | int n =>
      cases q3 : ownL ω2 kk with
      | none => rw [q3] at P2; exact P2.elim
      | some ds =>
        rw [q3] at P2; dsimp only at P2
        cases q4 : ixN ds.length n with
        | none => rw [q4] at P2; exact P2.elim
        | some j =>
          rw [q4] at P2; dsimp only at P2
          obtain ⟨more, e3, _⟩ := e2.pre
          have h2' : α2[kk]? = some a := by rw [e3, List.getElem?_append_left (List.getElem?_eq_some_iff.mp h2).1]; exact h2
          obtain ⟨_, vs, h5, h6⟩ := O2.obj kk _ a (ownL_eq q3) h2'
          have r2' : v2 = .int n := rep_int.mp (show Rep X.K X.mg G2 (.int n) v2 from r2)
          refine ⟨a, vs, n, j, rfl, r2', h5, by rw [h6.length]; exact q4, ?_⟩
          obtain ⟨O3, e4⟩ := O2.put (u := .lst (vs.set j v1)) (o' := .lst (ds.set j d)) (ownL_eq q3) h2' ⟨_, upd_same, h6.set (Rep.mono e2.g _ _ r1) j⟩
          exact P2 _ G2 α2 _ e4 O3 (((S.mono e1).mono e2).mono e4)
    | _ => exact P2.elim
def sRetL (i : Nat) : FS := fun ρ ω => match ownK ρ i with
  | none => .stuck
  | some k => match ownL ω k with
    | none => .stuck
    | some ds => .ret (.val (.lst ds)) (ω.set k none)
end
end Dl
namespace Dl
open PySem L2
def Cop (K : PySem.W.Frag) (mg : MG) (r : List V → Hp → VK → Prop) (op : List D → Option D) : Prop :=
  ∀ G H ds d vs Q, Same G H → op ds = some d → Reps K mg G ds vs → (∀ v G' H', Grow G H G' H' → Rep K mg G' d v → Q v H') → r vs H Q
def CopL (K : PySem.W.Frag) (mg : MG) (r : List V → Hp → VK → Prop) (op : List D → Option D) : Prop :=
  ∀ G H ds d a vs Q, Same G H → op ds = some d → SqL K H a vs → Reps K mg G ds vs → (∀ v G' H', Grow G H G' H' → Rep K mg G' d v → Q v H') → r [.ref a] H Q
def eCallB (op : List D → Option D) (g : FE (List SV)) : FE D := fun ρ ω => (g ρ ω).bind fun xs ω1 => Res.lift ((allD xs).bind op) ω1
def eOnL (op : List D → Option D) (g : FE (List D)) : FE D := fun ρ ω => (g ρ ω).bind fun ds ω1 => Res.lift (op ds) ω1
section
variable {X : Cx} {W : WX} {x : Str} {e : Expr} {es : List Expr} {p pos : Pos} {r : List V → Hp → VK → Prop} {op : List D → Option D} {g : FE (List SV)} {gl : FE (List D)}
theorem cb_post {t : TA} {K : PySem.W.Frag} {mg : MG} (B : Cop K mg r op)
    (k : ∀ G α ρ ω σ H Q, Own K mg G α ω H → Slots K mg G α ρ σ → Post K mg (RA K mg) G α H Q (fun c d H' => W c d σ H') (g ρ ω) → t σ H Q)
    (G α ρ ω σ H Q) (O : Own K mg G α ω H) (S : Slots K mg G α ρ σ) (P : Post K mg (RD K mg) G α H Q (fun c d H' => W c d σ H') (eCallB op g ρ ω)) : tCB r t σ H Q := by
  refine Post.step (t := t σ H) (k G α ρ ω σ H · O S) P fun xs ω1 vs G1 α1 H1 e1 O1 r1 P1 => ?_
  obtain ⟨d, e2, P2⟩ := P1.lift
  cases q : allD xs with
  | none => rw [q] at e2; cases e2
  | some ds =>
    rw [q] at e2
    exact B G1 H1 ds d vs Q O1.sub e2 (allD_reps q r1) fun v G' H' gr q => Post.grow O1 gr q P2
theorem de_callB {id : String} (hm : X.mg x = none) (hc : CallR X (.builtin id) r) (B : Cop X.K X.mg r op) (h : Da X W (e :: es) g) (hv : bootBuiltins x = some (.builtin id) := by decide +kernel) (hg : Gl X x := by rfl) (hn : x ≠ "__name__" := by decide) (hdb : (x == ("__debug__" : Str)) = false := by decide)
    (he : starEach (e :: es) X.env = (false, eval e X.env) :: starEach es X.env := by rfl) (hpl : (backTo pos (starEach es X.env)).any (·.1) = false := by rfl) : De X W (.Call (.Name x p) (e :: es) [] pos) (eCallB op g) := by
  obtain ⟨t, p, k⟩ := h
  exact ⟨_, pe_callB hc hg hm hv p hn hdb he hpl, cb_post B k⟩
theorem de_callTy {T : String} (hm : X.mg x = none) (hc : CallR X (.type T) r) (B : Cop X.K X.mg r op) (h : Da X W (e :: es) g) (hv : bootBuiltins x = some (.type T) := by decide +kernel) (hg : Gl X x := by rfl) (hn : x ≠ "__name__" := by decide) (hdb : (x == ("__debug__" : Str)) = false := by decide)
    (he : starEach (e :: es) X.env = (false, eval e X.env) :: starEach es X.env := by rfl) (hpl : (backTo pos (starEach es X.env)).any (·.1) = false := by rfl) : De X W (.Call (.Name x p) (e :: es) [] pos) (eCallB op g) := by
  obtain ⟨t, p, k⟩ := h
  exact ⟨_, pe_callTy hc hg hm hv p hn hdb he hpl, cb_post B k⟩
theorem cbL_post {t : TE} {K : PySem.W.Frag} {mg : MG} (B : CopL K mg r op)
    (k : ∀ G α ρ ω σ H Q, Own K mg G α ω H → Slots K mg G α ρ σ → Post K mg (RL K mg) G α H Q (fun c d H' => W c d σ H') (gl ρ ω) → t σ H Q)
    (G α ρ ω σ H Q) (O : Own K mg G α ω H) (S : Slots K mg G α ρ σ) (P : Post K mg (RD K mg) G α H Q (fun c d H' => W c d σ H') (eOnL op gl ρ ω)) : tCB r (tCons t tNil) σ H Q := by
  refine Post.step (t := t σ H) (Q1 := fun y H1 => r [y] H1 Q) (k G α ρ ω σ H · O S) P fun ds ω1 v G1 α1 H1 e1 O1 r1 P1 => ?_
  obtain ⟨d, e2, P2⟩ := P1.lift
  obtain ⟨a, vs, rfl, h1, h2⟩ := r1
  exact B G1 H1 ds d a vs Q O1.sub e2 h1 h2 fun v G' H' gr q => Post.grow O1 gr q P2
theorem de_callBL {id : String} (hm : X.mg x = none) (hc : CallR X (.builtin id) r) (B : CopL X.K X.mg r op) (h : Dl X W e gl) (hv : bootBuiltins x = some (.builtin id) := by decide +kernel) (hg : Gl X x := by rfl) (hn : x ≠ "__name__" := by decide) (hdb : (x == ("__debug__" : Str)) = false := by decide)
    (he : starEach (e :: []) X.env = (false, eval e X.env) :: starEach [] X.env := by rfl) (hpl : (backTo pos (starEach [] X.env)).any (·.1) = false := by rfl) : De X W (.Call (.Name x p) [e] [] pos) (eOnL op gl) := by
  obtain ⟨t, p, k⟩ := h
  exact ⟨_, pe_callB hc hg hm hv (pa_cons p pa_nil he) hn hdb he hpl, cbL_post B k⟩
end
def asBls : List D → Option (List Bool)
  | [] => some []
  | .bl b :: ds => (asBls ds).map (b :: ·)
  | _ :: _ => none
def oLen : List D → Option D
  | [.tup ds] => some (.int ds.length)
  | [.lst ds] => some (.int ds.length)
  | [.str z] => if z.length ≤ lim then some (.int z.length) else none
  | _ => none
def oLenL (ds : List D) : Option D := some (.int ds.length)
def oAllL (ds : List D) : Option D := (asBls ds).map fun bs => .bl (bs.all id)
def oAnyL (ds : List D) : Option D := (asBls ds).map fun bs => .bl (bs.any id)
def oInt : List D → Option D
  | [.int i] => some (.int i)
  | [.bl b] => some (.int (if b then 1 else 0))
  | _ => none
def oTuple : List D → Option D
  | [.tup ds] => some (.tup ds)
  | [.lst ds] => some (.tup ds)
  | _ => none
def oTupleL (ds : List D) : Option D := some (.tup ds)
def oList : List D → Option D
  | [.tup ds] => some (.lst ds)
  | [.lst ds] => some (.lst ds)
  | _ => none
def oListL (ds : List D) : Option D := some (.lst ds)
section
variable {K : PySem.W.Frag} {mg : MG} {G H : Hp} {X : Cx}
theorem asBls_reps : ∀ {ds : List D} {bs : List Bool} {vs : List V}, asBls ds = some bs → Reps K mg G ds vs → vs = bs.map V.bl
  | [], bs, vs, e, r => by cases e; exact reps_nil.mp r
  | d :: ds, bs, vs, e, r => by
    rw [reps_cons] at r
    obtain ⟨v, rr, rfl, h1, h2⟩ := r
    cases d with
    | bl b =>
      unfold asBls at e
      cases q : asBls ds with
      | none => rw [q] at e; cases e
      | some bs' =>
        rw [q] at e; cases e
        rw [rep_bl] at h1
        rw [h1, asBls_reps q h2]; rfl
    | _ => cases e
theorem reps1 {d : D} {vs : List V} (r : Reps K mg G [d] vs) : ∃ v, vs = [v] ∧ Rep K mg G d v := by
  rw [reps_cons] at r
  obtain ⟨v, rr, rfl, h1, h2⟩ := r
  rw [reps_nil] at h2; subst h2
  exact ⟨v, rfl, h1⟩
theorem reps2 {d e : D} {vs : List V} (r : Reps K mg G [d, e] vs) : ∃ v u, vs = [v, u] ∧ Rep K mg G d v ∧ Rep K mg G e u := by
  rw [reps_cons] at r
  obtain ⟨v, rr, rfl, h1, h2⟩ := r
  obtain ⟨u, rfl, h3⟩ := reps1 h2
  exact ⟨v, u, rfl, h1, h3⟩
theorem cop_len : Cop K mg (fun xs H Q => ∃ x n, xs = [x] ∧ LenV K x H n ∧ Q (.int n) H) oLen := by
  intro G H ds d vs Q s e r k
  unfold oLen at e
  split at e
  · cases e
    obtain ⟨v, rfl, h1⟩ := reps1 r
    rw [rep_tup] at h1
    obtain ⟨a, us, rfl, q, h2⟩ := h1
    exact ⟨_, _, rfl, .inr ⟨us, Same.sqT s q, rfl⟩, k _ G H (Grow.refl s) (rep_int.mpr (by rw [h2.length]))⟩
  · cases e
    obtain ⟨v, rfl, h1⟩ := reps1 r
    rw [rep_lst] at h1
    obtain ⟨a, us, rfl, q, h2⟩ := h1
    exact ⟨_, _, rfl, .inl ⟨us, s.seq q, rfl⟩, k _ G H (Grow.refl s) (rep_int.mpr (by rw [h2.length]))⟩
  · split at e
    · rename_i hl
      cases e
      obtain ⟨v, rfl, h1⟩ := reps1 r
      rw [rep_str] at h1
      subst h1
      exact ⟨_, _, rfl, ⟨by rw [lim_eq]; exact hl, rfl⟩, k _ G H (Grow.refl s) (rep_int.mpr rfl)⟩
    · cases e
  · cases e
theorem copL_all : CopL K mg (rAll K) oAllL := by
  intro G H ds d a vs Q s e q r k
  unfold oAllL at e
  cases q1 : asBls ds with
  | none => rw [q1] at e; cases e
  | some bs =>
    rw [q1] at e; cases e
    have := asBls_reps q1 r
    subst this
    exact ⟨a, bs, rfl, q, k _ G H (Grow.refl s) (rep_bl.mpr rfl)⟩
theorem cop_int : Cop K mg (fun xs H Q => (∃ i, xs = [V.int i] ∧ Q (.int i) H) ∨ ∃ k, xs = [V.bl k] ∧ Q (.int (if k then 1 else 0)) H) oInt := by
  intro G H ds d vs Q s e r k
  unfold oInt at e
  split at e
  · cases e
    obtain ⟨v, rfl, h1⟩ := reps1 r
    rw [rep_int] at h1
    subst h1
    exact .inl ⟨_, rfl, k _ G H (Grow.refl s) (rep_int.mpr rfl)⟩
  · cases e
    obtain ⟨v, rfl, h1⟩ := reps1 r
    rw [rep_bl] at h1
    subst h1
    exact .inr ⟨_, rfl, k _ G H (Grow.refl s) (rep_int.mpr rfl)⟩
  · cases e
abbrev rTupleOf (K : PySem.W.Frag) : List V → Hp → VK → Prop := fun xs H Q => ∃ p ys, xs = [.ref p] ∧ ((SqL K H p ys ∧ ∀ l, H l = none → Q (.ref l) (L2.upd H l (.tup ys))) ∨ (SqT K H p ys ∧ Q (.ref p) H))
abbrev rListOf (K : PySem.W.Frag) : List V → Hp → VK → Prop := fun xs H Q => ∃ p ys, xs = [.ref p] ∧ (SqL K H p ys ∨ SqT K H p ys) ∧ ∀ l, H l = none → Q (.ref l) (L2.upd H l (.lst ys))
theorem copL_tuple : CopL K mg (rTupleOf K) oTupleL := by
  intro G H ds d a vs Q s e q r k
  cases e
  exact ⟨a, vs, rfl, .inl ⟨q, fun l hl => k _ _ _ (Grow.put s hl) (rep_newT (H := H) (s.free hl) r)⟩⟩
theorem cop_tuple : Cop K mg (rTupleOf K) oTuple := by
  intro G H ds d vs Q s e r k
  unfold oTuple at e
  split at e
  · cases e
    obtain ⟨v, rfl, h1⟩ := reps1 r
    have h1' := h1
    rw [rep_tup] at h1
    obtain ⟨a, us, rfl, q, h2⟩ := h1
    exact ⟨a, us, rfl, .inr ⟨Same.sqT s q, k _ G H (Grow.refl s) h1'⟩⟩
  · cases e
    obtain ⟨v, rfl, h1⟩ := reps1 r
    rw [rep_lst] at h1
    obtain ⟨a, us, rfl, q, h2⟩ := h1
    exact copL_tuple G H _ _ a us Q s rfl (s.seq q) h2 k
  · cases e
theorem copL_list : CopL K mg (rListOf K) oListL := by
  intro G H ds d a vs Q s e q r k
  cases e
  exact ⟨a, vs, rfl, .inl q, fun l hl => k _ _ _ (Grow.put s hl) (rep_newL (H := H) (s.free hl) r)⟩
theorem cop_list : Cop K mg (rListOf K) oList := by
  intro G H ds d vs Q s e r k
  unfold oList at e
  split at e
  · cases e
    obtain ⟨v, rfl, h1⟩ := reps1 r
    rw [rep_tup] at h1
    obtain ⟨a, us, rfl, q, h2⟩ := h1
    exact ⟨a, us, rfl, .inr (Same.sqT s q), fun l hl => k _ _ _ (Grow.put s hl) (rep_newL (H := H) (s.free hl) h2)⟩
  · cases e
    obtain ⟨v, rfl, h1⟩ := reps1 r
    rw [rep_lst] at h1
    obtain ⟨a, us, rfl, q, h2⟩ := h1
    exact copL_list G H _ _ a us Q s rfl (s.seq q) h2 k
  · cases e
end
def tyD : D → Option String
  | .non => some "NoneType"
  | .bl _ => some "bool"
  | .int _ => some "int"
  | .str _ => some "str"
  | .tup _ => some "tuple"
  | .lst _ => some "list"
  | _ => none
def isTy (t u : String) : Bool := t == u || (t == "bool" && u == "int")
def tyNames : List String := ["NoneType", "bool", "int", "str", "tuple", "list"]
def isiD (u : String) (d : D) : Option D := (tyD d).map fun t => .bl (isTy t u)
def eIsi (u : String) (f : FE D) : FE D := fun ρ ω => (f ρ ω).bind fun d ω1 => Res.lift (isiD u d) ω1
section
variable {K : PySem.W.Frag} {mg : MG} {G H : Hp} {X : Cx} {W : WX}
theorem tyD_of (s : Same G H) : ∀ {d : D} {t : String} {v : V}, tyD d = some t → Rep K mg G d v → TyX K H v (.type t)
  | .non, t, v, e, r => by cases e; rw [rep_non] at r; subst r; exact .base .non
  | .bl b, t, v, e, r => by cases e; rw [rep_bl] at r; subst r; exact .base (.bl b)
  | .int b, t, v, e, r => by cases e; rw [rep_int] at r; subst r; exact .base (.int b)
  | .str b, t, v, e, r => by cases e; rw [rep_str] at r; subst r; exact .base (.str b)
  | .tup ds, t, v, e, r => by
    cases e
    rw [rep_tup] at r
    obtain ⟨a, vs, rfl, q, _⟩ := r
    rcases Same.sqT s q with (h | ⟨o, h⟩) | ⟨o, its, n, h1, h2, _⟩
    · exact .base (.tup h)
    · exact .fTuple h
    · exact .kTuple h1 h2
  | .lst ds, t, v, e, r => by
    cases e
    rw [rep_lst] at r
    obtain ⟨a, vs, rfl, q, _⟩ := r
    rcases s.seq q with (h | ⟨o, h⟩) | ⟨o, its, n, h1, h2, _⟩
    · exact .base (.lst h)
    · exact .base (.frz h)
    · exact .kList h1 h2
  | .obj _ _, t, v, e, r => by cases e
  | .dcK _, t, v, e, r => by cases e
  | .dcN _, t, v, e, r => by cases e
def TyAsk (K : PySem.W.Frag) (u : String) : Prop := ∀ t ∈ tyNames, PySem.W.kitOne K (.type t) (.type u) = some (isTy t u)
theorem tyD_names : ∀ {d : D} {t : String}, tyD d = some t → t ∈ tyNames
  | .non, t, e => by cases e; decide
  | .bl b, t, e => by cases e; decide
  | .int b, t, e => by cases e; decide
  | .str b, t, e => by cases e; decide
  | .tup ds, t, e => by cases e; decide
  | .lst ds, t, e => by cases e; decide
  | .obj _ _, t, e => by cases e
  | .dcK _, t, e => by cases e
  | .dcN _, t, e => by cases e
theorem de_isi {e : Expr} {f : FE D} {x : Str} {u : String} {p p2 pos : Pos} (hi : X.mg "isinstance" = none) (hx : X.mg x = none) (ask : TyAsk X.K u) (h : De X W e f) (hv : bootBuiltins x = some (.type u) := by decide +kernel) (hgx : Gl X x := by rfl) (hn : x ≠ "__name__" := by decide) (hdb : (x == ("__debug__" : Str)) = false := by decide)
    (hg : Gl X "isinstance" := by rfl) (he : starEach (e :: [.Name x p2]) X.env = (false, eval e X.env) :: starEach [.Name x p2] X.env := by rfl) (he2 : starEach (.Name x p2 :: []) X.env = (false, eval (.Name x p2) X.env) :: starEach [] X.env := by rfl)
    (hpl : (backTo pos (starEach [.Name x p2] X.env)).any (·.1) = false := by rfl) (hvi : bootBuiltins "isinstance" = some (.builtin "isinstance") := by decide +kernel) :
    De X W (.Call (.Name "isinstance" p) [e, .Name x p2] [] pos) (eIsi u f) := by
  obtain ⟨t, q, k⟩ := h
  refine ⟨_, pe_callB call_isi hg hi hvi (pa_cons q (pa_cons (pe_bltn (v := .ty u) hgx hx hv rfl hn hdb) pa_nil he2) he) (by decide) (by decide) he hpl, fun G α ρ ω σ H Q O S P => ?_⟩
  refine Post.step (t := t σ H) (k G α ρ ω σ H · O S) P fun d ω1 v G1 α1 H1 e1 O1 r1 P1 => ?_
  obtain ⟨b, e2, P2⟩ := P1.lift
  unfold isiD at e2
  cases q1 : tyD d with
  | none => rw [q1] at e2; cases e2
  | some tt =>
    rw [q1] at e2; cases e2
    exact ⟨v, .ty u, .type tt, .type u, _, rfl, .ty u, tyD_of O1.sub q1 r1, ask tt (tyD_names q1), Post.here O1 (show Rep X.K X.mg G1 _ _ from rep_bl.mpr rfl) P2⟩
end
end Dl
namespace Dl
open PySem L2
abbrev FnP := List D → Option (Except Exn D)
abbrev Fn := List SV → Om → Res SV
def rho0 (m : Nat) (xs : List SV) : Rho := xs.map some ++ List.replicate (m - xs.length) none
def fnP (n m : Nat) (fb : FS) : FnP := fun ds => if ds.length = n then (match fb (rho0 m (ds.map SV.val)) [] with
    | .ret (.val d) _ => some (.ok d)
    | .next _ _ => some (.ok .non)
    | .exc x _ _ => some (.error x)
    | _ => none) else none
def fnE (n m : Nat) (fb : FS) : Fn := fun xs ω => if xs.length = n then (match fb (rho0 m xs) ω with
    | .ret (.val d) ω' => .ok (.val d) (ω'.take ω.length)
    | .ret (.exc z) ω' => .ok (.exc z) (ω'.take ω.length)
    | .ret (.ans ks o) ω' => .ok (.ans ks o) ω'
    | .ret (.own k) ω' => if k < ω.length then .ok (.own k) (ω'.take ω.length) else if k = ω.length then .ok (.own k) (ω'.take (ω.length + 1)) else .stuck
    | .next _ ω' => .ok (.val .non) (ω'.take ω.length)
    | .exc x _ ω' => .exc x (ω'.take ω.length)
    | _ => .stuck) else .stuck
section
variable (K : PySem.W.Frag) (mg : MG)
def spP (F : FnP) : Sp := fun vs H Q E => ∃ G ds, Same G H ∧ Reps K mg G ds vs ∧ (match F ds with
  | none => False
  | some (.ok d) => ∀ v G' H', Grow G H G' H' → Rep K mg G' d v → Q v H'
  | some (.error x) => ∀ c dd G' H', Grow G H G' H' → RepX K mg G' x c dd → E c dd H')
def spE (F : Fn) : Sp := fun vs H Q E => ∃ G α ω xs, Own K mg G α ω H ∧ RepVs K mg G α xs vs ∧ Post K mg (RS K mg) G α H Q E (F xs ω)
end
section
variable {K : PySem.W.Frag} {mg : MG}
theorem slots0 {G : Hp} {α : List Addr} {N : List Str} {xs : List SV} {vs : List V} (r : RepVs K mg G α xs vs) : Slots K mg G α (rho0 N.length xs) (L2.start N vs) := by
  have hl : xs.length = vs.length := RepVs.length r
  refine ⟨by simp [rho0, L2.start, hl], fun i x e => ?_⟩
  unfold rho0 at e
  unfold L2.start
  by_cases h : i < xs.length
  · rw [List.getElem?_append_left (by simpa using h), List.getElem?_map] at e
    rw [List.getElem?_append_left (by simp; omega), List.getElem?_map]
    cases q : xs[i]? with
    | none => rw [q] at e; cases e
    | some y =>
      rw [q] at e
      cases e
      have get : ∀ {xs : List SV} {vs : List V} {i : Nat} {y : SV}, RepVs K mg G α xs vs → xs[i]? = some y → ∃ v, vs[i]? = some v ∧ RepV K mg G α y v := by
        intro xs vs i y r
        induction r generalizing i with
        | nil => intro e; simp at e
        | cons h t ih =>
          intro e
          cases i with
          | zero => simp at e; subst e; exact ⟨_, rfl, h⟩
          | succ i => simp at e; simpa using ih e
      obtain ⟨v, h1, h2⟩ := get r q
      rw [h1]
      exact ⟨v, rfl, h2⟩
  · rw [List.getElem?_append_right (by simp; omega)] at e
    exfalso
    have := List.mem_of_getElem? e
    rw [List.mem_replicate] at this
    cases this.2
theorem repVs_val {G : Hp} {α : List Addr} : ∀ {ds : List D} {vs : List V}, Reps K mg G ds vs → RepVs K mg G α (ds.map SV.val) vs
  | [], vs, r => by rw [reps_nil] at r; subst r; exact .nil
  | d :: ds, vs, r => by
    rw [reps_cons] at r
    obtain ⟨v, rr, rfl, h1, h2⟩ := r
    exact .cons h1 (repVs_val h2)
theorem Ext.grow {G H G' H' : Hp} {α' : List Addr} {ω' : Om} (e : Ext G [] H G' α' H') (O : Own K mg G' α' ω' H') : Grow G H G' H' :=
  ⟨e.g, fun a o h => e.keep a o h (by simp), O.sub, fun a o h => by
    rcases e.new a o h with z | z | z
    · exact .inl z
    · exact .inr z
    · simp at z⟩
theorem Own.take {G H : Hp} {α : List Addr} {ω : Om} (O : Own K mg G α ω H) (n : Nat) : Own K mg G (α.take n) (ω.take n) H := by
  refine ⟨O.sub, by simp [O.len], O.nd.sublist (List.take_sublist _ _), fun a ha => O.ex a (List.mem_of_mem_take ha), fun k o a h1 h2 => ?_⟩
  rw [List.getElem?_take] at h1 h2
  split at h1
  · rename_i hk
    rw [if_pos hk] at h2
    exact O.obj k o a h1 h2
  · cases h1
theorem Ext.take {G H G' H' : Hp} {α α' : List Addr} (e : Ext G α H G' α' H') {n : Nat} (hn : α.length ≤ n) : Ext G α H G' (α'.take n) H' := by
  obtain ⟨more, h1, h2⟩ := e.pre
  refine ⟨e.g, e.new, e.keep, e.live, more.take (n - α.length), ?_, fun a ha => h2 a (List.mem_of_mem_take ha)⟩
  rw [h1, List.take_append, List.take_of_length_le hn]
end
section
variable {P : Program} {w : World} {K : PySem.W.Frag} {mg : Str → Option Value} {base : Heap}
theorem fn_okP {x qual : Str} {st : Stmt} {f : Addr} {fd : FuncData} {N ps : List Str} {k n : Nat} {fb : FS} (F : Fun K x qual st f fd) (S : FnScope N ps (defScope st)) (hn : ps.length = n)
    (hbody : ∀ (cdv : Value) (A : Around) (outer : List Env) (s : Shared) (H : Hp) (E : XK), Room k (A.deeper (PyProof.Rows.envOfC qual (defScope st) s.heap.objs.size f cdv)) →
      Dss (cxOf (L2.CX P w) P w K mg base N qual (defScope st) f cdv A outer s H E) (fun c d _ H' => E c d H') (defBody st) fb) : FnOk P w K mg base (L2.CX P w) (k + 1) f fd ps (spP K mg (fnP n N.length fb)) := by
  refine F.okX S (fun vs H Q E h => ?_) (fun cdv A outer s H vs Q E hr h => ?_)
  · obtain ⟨G, ds, s, r, h⟩ := h
    unfold fnP at h
    by_cases e : ds.length = n
    · rw [r.length, e, hn]
    · rw [if_neg e] at h; exact h.elim
  · obtain ⟨G, ds, sm, r, h⟩ := h
    obtain ⟨t, p, kk⟩ := hbody cdv A outer s H E hr
    refine ⟨t, p, kk G [] (rho0 N.length (ds.map SV.val)) [] _ H _ (Own.nil sm) (slots0 (repVs_val r)) ?_⟩
    unfold fnP at h
    by_cases e : ds.length = n
    · rw [if_pos e] at h
      cases q : fb (rho0 N.length (ds.map SV.val)) [] with
      | stuck => rw [q] at h; exact h.elim
      | brk _ _ => rw [q] at h; exact h.elim
      | cont _ _ => rw [q] at h; exact h.elim
      | next ρ' ω' =>
        rw [q] at h
        exact fun σ' G' α' H' e' O' S' => h .non G' H' (e'.grow O') (rep_non.mpr rfl)
      | ret x ω' =>
        rw [q] at h
        cases x with
        | own k => exact h.elim
        | exc z => exact h.elim
        | lk z => exact h.elim
        | ans _ _ => exact h.elim
        | val d => exact fun v G' α' H' e' O' r' => h v G' H' (e'.grow O') r'
      | exc x ρ' ω' =>
        rw [q] at h
        exact fun c dd σ' G' α' H' e' O' S' r' => h c dd G' H' (e'.grow O') r'
    · rw [if_neg e] at h; exact h.elim
theorem fn_okE {x qual : Str} {st : Stmt} {f : Addr} {fd : FuncData} {N ps : List Str} {k n : Nat} {fb : FS} (F : Fun K x qual st f fd) (S : FnScope N ps (defScope st)) (hn : ps.length = n)
    (hbody : ∀ (cdv : Value) (A : Around) (outer : List Env) (s : Shared) (H : Hp) (E : XK), Room k (A.deeper (PyProof.Rows.envOfC qual (defScope st) s.heap.objs.size f cdv)) →
      Dss (cxOf (L2.CX P w) P w K mg base N qual (defScope st) f cdv A outer s H E) (fun c d _ H' => E c d H') (defBody st) fb) : FnOk P w K mg base (L2.CX P w) (k + 1) f fd ps (spE K mg (fnE n N.length fb)) := by
  refine F.okX S (fun vs H Q E h => ?_) (fun cdv A outer s H vs Q E hr h => ?_)
  · obtain ⟨G, α, ω, xs, O, r, h⟩ := h
    unfold fnE at h
    by_cases e : xs.length = n
    · rw [← RepVs.length r, e, hn]
    · rw [if_neg e] at h; exact h.elim
  · obtain ⟨G, α, ω, xs, O, r, h⟩ := h
    obtain ⟨t, p, kk⟩ := hbody cdv A outer s H E hr
    refine ⟨t, p, kk G α (rho0 N.length xs) ω _ H _ O (slots0 r) ?_⟩
    unfold fnE at h
    by_cases e : xs.length = n
    · rw [if_pos e] at h
      cases q : fb (rho0 N.length xs) ω with
      | stuck => rw [q] at h; exact h.elim
      | brk _ _ => rw [q] at h; exact h.elim
      | cont _ _ => rw [q] at h; exact h.elim
      | next ρ' ω' =>
        rw [q] at h
        exact fun σ' G' α' H' e' O' S' => h .non G' (α'.take ω.length) H' (e'.take (by rw [O.len]; exact Nat.le_refl _)) (O'.take _) (show Rep K mg G' .non .non from rep_non.mpr rfl)
      | ret x ω' =>
        rw [q] at h
        cases x with
        | val d => exact fun v G' α' H' e' O' r' => h v G' (α'.take ω.length) H' (e'.take (by rw [O.len]; exact Nat.le_refl _)) (O'.take _) r'
        | exc z => exact fun v G' α' H' e' O' r' => h v G' (α'.take ω.length) H' (e'.take (by rw [O.len]; exact Nat.le_refl _)) (O'.take _) r'
        | lk z => exact h.elim
        | ans ks o => exact fun v G' α' H' e' O' r' => h v G' α' H' e' O' r'
        | own k =>
          dsimp only at h
          intro v G' α' H' e' O' r'
          obtain ⟨a, h1, rfl⟩ := r'
          by_cases hk : k < ω.length
          · rw [if_pos hk] at h
            exact h (.ref a) G' (α'.take ω.length) H' (e'.take (by rw [O.len]; exact Nat.le_refl _)) (O'.take _) ⟨a, by rw [List.getElem?_take, if_pos hk]; exact h1, rfl⟩
          · rw [if_neg hk] at h
            by_cases hk2 : k = ω.length
            · rw [if_pos hk2] at h
              exact h (.ref a) G' (α'.take (ω.length + 1)) H' (e'.take (by rw [O.len]; exact Nat.le_succ _)) (O'.take _) ⟨a, by rw [List.getElem?_take, if_pos (by omega)]; exact h1, rfl⟩
            · rw [if_neg hk2] at h; exact h.elim
      | exc x ρ' ω' =>
        rw [q] at h
        exact fun c dd σ' G' α' H' e' O' S' r' => h c dd G' (α'.take ω.length) H' (e'.take (by rw [O.len]; exact Nat.le_refl _)) (O'.take _) r'
    · rw [if_neg e] at h; exact h.elim
end
def eCallP (F : FnP) (g : FE (List SV)) : FE D := fun ρ ω => (g ρ ω).bind fun xs ω1 => match allD xs with
  | none => .stuck
  | some ds => match F ds with
    | none => .stuck
    | some (.ok d) => .ok d ω1
    | some (.error x) => .exc x ω1
def eCallE (F : Fn) (g : FE (List SV)) : FE SV := fun ρ ω => (g ρ ω).bind F
def eVal (f : FE SV) : FE D := fun ρ ω => (f ρ ω).bind fun x ω1 => match x with
  | .val d => .ok d ω1
  | .own _ => .stuck
  | .exc _ => .stuck
  | .lk _ => .stuck
  | .ans _ _ => .stuck
section
variable {X : Cx} {W : WX} {k : Nat} {f : Addr} {fd : FuncData} {ps : List Str} {x : Str} {e : Expr} {es : List Expr} {p pos : Pos} {g : FE (List SV)}
theorem de_val {fv : FE SV} (h : Dv X W e fv) : De X W e (eVal fv) := by
  obtain ⟨t, p, j⟩ := h
  refine ⟨t, p, fun G α ρ ω σ H Q O S P => ?_⟩
  refine Post.step (t := t σ H) (j G α ρ ω σ H · O S) P fun x ω1 v G1 α1 H1 e1 O1 r1 P1 => ?_
  cases x with
  | own k => exact P1.elim
  | exc k => exact P1.elim
  | lk k => exact P1.elim
  | ans _ _ => exact P1.elim
  | val d => exact Post.here O1 (show Rep X.K X.mg G1 d v from r1) P1
structure Clb (X : Cx) (k : Nat) (x : Str) (f : Addr) (fd : FuncData) (ps : List Str) (sp : Sp) : Prop where
  ok : FnOk X.prog X.w X.K X.mg X.base (L2.CX X.prog X.w) k f fd ps sp
  gl : X.mg x = some (.ref f)
  kp : PySem.W.keepIn X.K (.ref f) = true
  bd : Binds X.K fd ps []
theorem de_call {F : FnP} (tk : Takes X W) (hr : Room k X.A) (C : Clb X k x f fd ps (spP X.K X.mg F)) (h : Da X W (e :: es) g) (hg : Gl X x := by rfl) (hdb : (x == ("__debug__" : Str)) = false := by decide) (he : starEach (e :: es) X.env = (false, eval e X.env) :: starEach es X.env := by rfl)
    (hpl : (backTo pos (starEach es X.env)).any (·.1) = false := by rfl) : De X W (.Call (.Name x p) (e :: es) [] pos) (eCallP F g) := by
  obtain ⟨t, q, j⟩ := h
  refine ⟨_, pe_callSD (dvs := []) (E := WE W) C.ok hr hg C.gl C.kp C.bd .nil (fun σ => passAt tk σ) q hdb he hpl, fun G α ρ ω σ H Q O S P => ?_⟩
  refine Post.step (t := t σ H) (j G α ρ ω σ H · O S) P fun xs ω1 vs G1 α1 H1 e1 O1 r1 P1 => ?_
  rw [List.append_nil]
  cases q1 : allD xs with
  | none => rw [q1] at P1; exact P1.elim
  | some ds =>
    rw [q1] at P1; dsimp only at P1
    refine ⟨G1, ds, O1.sub, allD_reps q1 r1, ?_⟩
    cases q2 : F ds with
    | none => rw [q2] at P1; exact P1.elim
    | some y =>
      rw [q2] at P1
      cases y with
      | ok d => exact fun v G' H' gr r => Post.grow O1 gr (show Rep X.K X.mg G' d v from r) P1
      | error z => exact fun c dd G' H' gr r => P1 c dd G' α1 H' gr.ext (O1.grow gr) r
theorem dv_callE {F : Fn} (tk : Takes X W) (hr : Room k X.A) (C : Clb X k x f fd ps (spE X.K X.mg F)) (h : Da X W (e :: es) g) (hg : Gl X x := by rfl) (hdb : (x == ("__debug__" : Str)) = false := by decide) (he : starEach (e :: es) X.env = (false, eval e X.env) :: starEach es X.env := by rfl)
    (hpl : (backTo pos (starEach es X.env)).any (·.1) = false := by rfl) : Dv X W (.Call (.Name x p) (e :: es) [] pos) (eCallE F g) := by
  obtain ⟨t, q, j⟩ := h
  refine ⟨_, pe_callSD (dvs := []) (E := WE W) C.ok hr hg C.gl C.kp C.bd .nil (fun σ => passAt tk σ) q hdb he hpl, fun G α ρ ω σ H Q O S P => ?_⟩
  refine Post.step (t := t σ H) (j G α ρ ω σ H · O S) P fun xs ω1 vs G1 α1 H1 e1 O1 r1 P1 => ?_
  rw [List.append_nil]
  exact ⟨G1, α1, ω1, xs, O1, r1, P1⟩
end
def eMake (c : Str) (F : Fn) (g : FE (List SV)) : FE D := fun ρ ω => (g ρ ω).bind fun xs ω1 => match allD xs with
  | none => .stuck
  | some ds => match F (.own 0 :: ds.map SV.val) [some (.ins c [])] with
    | .ok (.val .non) [some (.ins c' fs)] => .ok (.obj c' fs) ω1
    | .exc x _ => .exc x ω1
    | _ => .stuck
section
variable {X : Cx} {CX : CXT} {k : Nat} {f C : Addr} {fd : FuncData} {ps : List Str} {sp : Sp} {dvs : List V} {ds : List Value} {E : St → XK} {x : Str} {p pos : Pos} {e : Expr} {es : List Expr} {t : TA}
def tMakeS (C : Addr) (sp : Sp) (E : St → XK) (t : TA) : TE := fun σ H Q => t σ H fun vs H1 => ∀ x dx, H1 x = none → H1 dx = none → dx ≠ x →
  sp (.ref x :: vs) (L2.upd (L2.upd H1 dx (.own x)) x (.ins C dx [])) (fun v H2 => v = .non ∧ Q (.ref x) H2) (E σ)
theorem run_makeS {pins : List (Addr × Obj)} {σ : St} {H : Hp} {s : Shared} {Q : VK} {us : List Value} {vs : List V} (M : Mk X.K C f) (F : FnOk X.prog X.w X.K X.mg X.base CX k f fd ps sp) (hr : Room (k + 1) X.A) (hb : Binds X.K fd ps [])
    (hx : PassesAt CX X σ (E σ)) (I : Inv X pins σ H s) (r : Vals vs us)
    (h : ∀ x dx, H x = none → H dx = none → dx ≠ x → sp (.ref x :: vs) (L2.upd (L2.upd H dx (.own x)) x (.ins C dx [])) (fun v H2 => v = .non ∧ Q (.ref x) H2) (E σ)) :
    wpAny (model X.prog X.w) X.A (call (.ref C) us) (EP X pins σ Q) X.xe s := by
  have hq := h (s.heap.objs.size + 1) s.heap.objs.size (I.hok.fresh (Nat.le_succ _)) (I.hok.fresh (Nat.le_refl _)) (Nat.ne_of_lt (Nat.lt_succ_self _))
  have I2 := Inv.made (C := C) I
  have r2 : Vals (V.ref (s.heap.objs.size + 1) :: vs) (Value.ref (s.heap.objs.size + 1) :: us) := .cons rfl r
  have hl : (Value.ref (s.heap.objs.size + 1) :: us ++ []).length = ps.length := by
    have e := r2.length
    rw [F.len _ _ _ _ hq] at e
    rw [List.append_nil]
    exact e.symm
  have bb := hb _ (Value.ref (s.heap.objs.size + 1) :: us) I2.kIn hl
  rw [List.append_nil] at bb
  refine wpAny_call (make_map (f := f) I.kIn M.makes M.init (beq_iff_eq.mp M.fn) (codeAny_mono (F.run _ X.stack _ _ ⟨Value.ref (s.heap.objs.size + 1) :: us, []⟩ (Value.ref (s.heap.objs.size + 1) :: us) _ _ (E σ) (hr.make C us [])
    (I2.env0.make C us []) bb r2 hq) fun r s' hq' => ?_))
  cases r with
  | error e => exact hx pins _ _ e s' I2 hq'
  | ok fl =>
    cases fl with
    | ret u =>
      obtain ⟨v, H', I3, rv, ev, q3⟩ := I2.after hq'
      subst ev
      exact ⟨rv, ⟨V.ref (s.heap.objs.size + 1), H', I3, rfl, q3⟩⟩
    | next => exact False.elim hq'
    | brk => exact False.elim hq'
    | cont => exact False.elim hq'
theorem pe_makeS (M : Mk X.K C f) (F : FnOk X.prog X.w X.K X.mg X.base CX k f fd ps sp) (hr : Room (k + 1) X.A) (hg : Gl X x) (hm : X.mg x = some (.ref C)) (hb : Binds X.K fd ps []) (hx : ∀ σ, PassesAt CX X σ (E σ))
    (ha : PA X (e :: es) t) (hdb : (x == ("__debug__" : Str)) = false := by decide) (he : starEach (e :: es) X.env = (false, eval e X.env) :: starEach es X.env := by rfl) (hpl : (backTo pos (starEach es X.env)).any (·.1) = false := by rfl) :
    PE X (.Call (.Name x p) (e :: es) [] pos) (tMakeS C sp E t) := by
  refine ⟨fun pins s σ H Q I h => ?_⟩
  refine wpAny_Call_Name_kw (ld_glob I hg hm ?_ hdb)
  refine PySem.W.callWith_K (h₀ := X.base) I.ok.mod.kin M.kp (thn (ha.run pos pins s σ H _ I h) fun us s1 ⟨vs, H1, I1, r, q⟩ => ⟨I1.kIn, ?_⟩) he hpl
  exact run_makeS M F hr hb (hx σ) I1 r q
end
section
variable {X : Cx} {W : WX} {k : Nat} {f C : Addr} {fd : FuncData} {ps : List Str} {x : Str} {e : Expr} {es : List Expr} {p pos : Pos} {g : FE (List SV)}
theorem made_own {K : PySem.W.Frag} {mg : MG} {G H : Hp} {a dx C : Addr} {c : Str} (s : Same G H) (hc : mg c = some (.ref C)) (ha : H a = none) (hd : H dx = none) (ne : dx ≠ a) :
    Own K mg G [a] [some (.ins c [])] (L2.upd (L2.upd H dx (.own a)) a (.ins C dx [])) := by
  have ha' : (L2.upd H dx (.own a)) a = none := by rw [upd_ne ne.symm]; exact ha
  have s1 : Same G (L2.upd H dx (.own a)) := s.trans (Same.upd hd)
  exact ((Own.nil (K := K) (mg := mg) s1).new (o := .ins c []) ha' ⟨C, dx, [], hc, upd_same, repF_nil.mpr rfl⟩).1
theorem de_make {F : Fn} (tk : Takes X W) (hr : Room (k + 1) X.A) (M : Mk X.K C f) (ok : FnOk X.prog X.w X.K X.mg X.base (L2.CX X.prog X.w) k f fd ps (spE X.K X.mg F)) (hm : X.mg x = some (.ref C)) (hb : Binds X.K fd ps []) (h : Da X W (e :: es) g)
    (hg : Gl X x := by rfl) (hdb : (x == ("__debug__" : Str)) = false := by decide) (he : starEach (e :: es) X.env = (false, eval e X.env) :: starEach es X.env := by rfl)
    (hpl : (backTo pos (starEach es X.env)).any (·.1) = false := by rfl) : De X W (.Call (.Name x p) (e :: es) [] pos) (eMake x F g) := by
  obtain ⟨t, q, j⟩ := h
  refine ⟨_, pe_makeS (E := WE W) M ok hr hg hm hb (fun σ => passAt tk σ) q hdb he hpl, fun G α ρ ω σ H Q O S P => ?_⟩
  refine Post.step (t := t σ H) (j G α ρ ω σ H · O S) P fun xs ω1 vs G1 α1 H1 e1 O1 r1 P1 => ?_
  intro a dx ha hd ne
  cases q1 : allD xs with
  | none => rw [q1] at P1; exact P1.elim
  | some ds =>
    rw [q1] at P1; dsimp only at P1
    have hr1 := allD_reps q1 r1
    have O2 := made_own (K := X.K) (c := x) O1.sub hm ha hd ne
    have hH : Same H1 (L2.upd (L2.upd H1 dx (.own a)) a (.ins C dx [])) := (Same.upd hd).trans (Same.upd (by rw [upd_ne ne.symm]; exact ha))
    -- what is known at the end of __init__, seen from the caller
    have back : ∀ {G' α' H' ω'}, Ext G1 [a] (L2.upd (L2.upd H1 dx (.own a)) a (.ins C dx [])) G' α' H' → Own X.K X.mg G' α' ω' H' → Grow G1 H1 G' H' := fun {G' α' H' ω'} e' O' => by
      refine ⟨e'.g, fun b o h => e'.keep b o (hH b o h) (fun z => ?_), O'.sub, fun b o h => ?_⟩
      · rw [List.mem_singleton.mp z, ha] at h; cases h
      · rcases e'.new b o h with z | z | z
        · exact .inl z
        · refine .inr ?_
          cases q : H1 b with
          | none => rfl
          | some o' => rw [hH b o' q] at z; cases z
        · rw [List.mem_singleton.mp z]; exact .inr ha
    refine ⟨G1, [a], [some (.ins x [])], .own 0 :: ds.map SV.val, O2, .cons ⟨a, rfl, rfl⟩ (repVs_val hr1), ?_⟩
    cases q2 : F (.own 0 :: ds.map SV.val) [some (.ins x [])] with
    | stuck => rw [q2] at P1; exact P1.elim
    | exc z ω' =>
      rw [q2] at P1
      intro c dd G' α' H' e' O' r'
      have gr := back e' O'
      exact P1 c dd G' α1 H' gr.ext (O1.grow gr) r'
    | ok y ω' =>
      rw [q2] at P1
      intro v G' α' H' e' O' r'
      split at P1
      · rename_i z c' fs heq
        cases heq
        have hv : v = .non := rep_non.mp (show Rep X.K X.mg G' .non v from r')
        refine ⟨hv, ?_⟩
        have gr := back e' O'
        obtain ⟨more, h1, _⟩ := e'.pre
        have h2 : α'[0]? = some a := by rw [h1]; rfl
        obtain ⟨hg', C', dx', fvs, hC, hHa, hF⟩ := O'.obj 0 _ a rfl h2
        -- freeze it
        obtain ⟨O3, e3, _⟩ := O'.freeze (k := 0) rfl h2 hHa
        have gr2 : Grow G1 H1 (L2.upd G' a (.ins C' dx' fvs)) H' := by
          refine ⟨gr.g.trans (Same.upd hg'), gr.h, O3.sub, fun b o h => ?_⟩
          by_cases z : b = a
          · subst z; exact .inr ha
          · rw [upd_ne z] at h; exact gr.new b o h
        refine Post.grow O1 gr2 (show Rep X.K X.mg _ _ _ from rep_obj.mpr ⟨a, C', dx', fvs, rfl, hC, upd_same, RepF.mono (Same.upd hg') _ _ hF⟩) P1
      · rename_i z w heq
        cases heq
      · exact P1.elim
def fldD (c f : Str) : D → Option D
  | .obj c' fs => if c' = c then fs.lookup f else none
  | _ => none
def eFld (c f : Str) (fe : FE D) : FE D := fun ρ ω => (fe ρ ω).bind fun d ω1 => Res.lift (fldD c f d) ω1
structure ClsD (K : PySem.W.Frag) (mg : MG) (c : Str) (C : Addr) : Prop where
  gl : mg c = some (.ref C)
  cl : Cls K C
theorem de_fld {c fl : Str} {fe : FE D} (cd : ClsD X.K X.mg c C) (na : NoAttr X.K C fl) (h : De X W e fe) (hb : attributeBase e fl X.env (eval e X.env) = eval e X.env := by rfl) : De X W (.Attribute e fl pos) (eFld c fl fe) := by
  obtain ⟨t, q, j⟩ := h
  refine ⟨_, pe_fld q hb, fun G α ρ ω σ H Q O S P => ?_⟩
  refine Post.step (t := t σ H) (j G α ρ ω σ H · O S) P fun d ω1 v G1 α1 H1 e1 O1 r1 P1 => ?_
  obtain ⟨y, e2, P2⟩ := P1.lift
  cases d with
  | obj c' fs =>
    unfold fldD at e2
    dsimp only at e2
    split at e2
    · rename_i hc
      subst hc
      have r1' : Rep X.K X.mg G1 (.obj c' fs) v := r1
      rw [rep_obj] at r1'
      obtain ⟨a, C', dx, fvs, rfl, hC, hG, hF⟩ := r1'
      have : C' = C := by
        have := hC.symm.trans cd.gl
        cases this; rfl
      subst this
      obtain ⟨u, h3, h4⟩ := hF.look e2
      exact ⟨a, C', dx, fvs, u, rfl, O1.sub a _ hG, cd.cl, na, h3, Post.here O1 (show Rep X.K X.mg G1 y u from h4) P2⟩
    · cases e2
  | _ => cases e2
def ownI (ω : Om) (k : Nat) : Option (Str × List (Str × D)) := match ω[k]? with
  | some (some (.ins c fs)) => some (c, fs)
  | _ => none
theorem ownI_eq {ω : Om} {k : Nat} {c : Str} {fs : List (Str × D)} (h : ownI ω k = some (c, fs)) : ω[k]? = some (some (.ins c fs)) := by
  unfold ownI at h
  split at h
  · rename_i e; cases h; exact e
  · cases h
def sFldO (i : Nat) (c f : Str) (fe : FE D) : FS := fun ρ ω => (fe ρ ω).out ρ fun d ω1 => match ownK ρ i with
  | none => .stuck
  | some k => match ownI ω1 k with
    | none => .stuck
    | some (c', fs) => if c' = c ∧ fs.length < 1000 then .next ρ (ω1.set k (some (.ins c' (putD f d fs)))) else .stuck
theorem putF_rep {K : PySem.W.Frag} {mg : MG} {G : Hp} {f : Str} {d : D} {v : V} (r : Rep K mg G d v) : ∀ {fs : List (Str × D)} {fvs : List (Str × V)}, RepF K mg G fs fvs → RepF K mg G (putD f d fs) (putF f v fvs)
  | [], fvs, h => by
    rw [repF_nil] at h; subst h
    unfold putD putF
    exact repF_cons.mpr ⟨v, [], rfl, r, repF_nil.mpr rfl⟩
  | (g, y) :: fs, fvs, h => by
    rw [repF_cons] at h
    obtain ⟨u, rr, rfl, h1, h2⟩ := h
    unfold putD putF
    by_cases q : g = f
    · rw [if_pos q, if_pos q]
      subst q; exact repF_cons.mpr ⟨v, rr, rfl, r, h2⟩
    · rw [if_neg q, if_neg q]
      exact repF_cons.mpr ⟨u, _, rfl, h1, putF_rep r h2⟩
theorem ds_fldO (i : Nat) {c fl y : Str} {fe : FE D} {p1 p2 : Pos} (cd : ClsD X.K X.mg c C) (na : NoAttr X.K C fl) (h : De X W e fe) (hN : X.N[i]? = some y := by rfl) (hv : Vis X.env.scope y := by first | exact Or.inl rfl | exact Or.inr (Or.inl rfl) | exact Or.inr (Or.inr rfl)) (hd : (y == ("__debug__" : Str)) = false := by decide)
    (hcd : (y == ("__classdict__" : Str)) = false := by decide) (hs : swapsWith e (some (.Attribute (.Name y p1) fl p2)) pos.line X.env = pure false := by rfl) : Ds X W (.Assign [.Attribute (.Name y p1) fl p2] e pos) (sFldO i c fl fe) := by
  obtain ⟨t, q, j⟩ := h
  refine ⟨_, ps_fld (pe_var hN hv hd hcd) q hs, fun G α ρ ω σ H D O S P => ?_⟩
  refine PostS.step S (t := t σ H) (j G α ρ ω σ H · O S) P fun d ω1 v G1 α1 H1 e1 O1 r1 P1 => ?_
  cases q1 : ownK ρ i with
  | none => rw [q1] at P1; exact P1.elim
  | some kk =>
    rw [q1] at P1; dsimp only at P1
    cases q2 : ownI ω1 kk with
    | none => rw [q2] at P1; exact P1.elim
    | some cf =>
      obtain ⟨c', fs⟩ := cf
      rw [q2] at P1; dsimp only at P1
      split at P1
      · rename_i hc
        obtain ⟨hc, hl⟩ := hc
        subst hc
        obtain ⟨v0, h1, a, h2, rfl⟩ := (S.mono e1).val i _ (ownK_eq q1)
        obtain ⟨hg, C', dx, fvs, hC, hHa, hF⟩ := O1.obj kk _ a (ownI_eq q2) h2
        have : C' = C := by
          have := hC.symm.trans cd.gl
          cases this; rfl
        subst this
        refine ⟨_, h1, a, C', dx, fvs, rfl, hHa, cd.cl, na, by rw [hF.length]; exact hl, ?_⟩
        obtain ⟨O2, e2⟩ := O1.put (u := .ins C' dx (putF fl v fvs)) (o' := .ins c' (putD fl d fs)) (ownI_eq q2) h2 ⟨C', dx, _, hC, upd_same, putF_rep r1 hF⟩
        exact P1 _ G1 α1 _ e2 O2 ((S.mono e1).mono e2)
      · exact P1.elim
end
end Dl
namespace Dl
open PySem PySem.Spec PyProof.Rows
open Sem (wp)
open AutoSeq1 (wpAny_loadPart')
theorem tuple_mul1 (l : Addr) (items : Array Value) (n : Nat) (dd : Option Addr) (sl : Array (Option Value)) (u : Tok) :
    Meets (Builtin.«tuple.__mul__» ⟨[.ref l, .int 1 u], []⟩) (fun _ R s => s.heap.get? l = some { cls := .type "tuple", dict := dd, data := .seq items n, slots := sl } ∧ R (.ok (.ret (Value.ref l))) s) :=
  .of_wp fun prog w A R s h => by
    obtain ⟨hp, g, d, tk, os⟩ := s
    obtain ⟨hl, h⟩ := h
    have f1 := AutoSeq1.idx_int
    wp_walk using wpAny_loadPart' hl
    exact ⟨_, rfl, h⟩
end Dl
namespace Dl
open PySem PyProof.Rows PySem.W
section
open L2 (V Hp VK Cx Inv OpR R2 SqT Vals RelV EP HO upd)
def rRep1 (K : PySem.W.Frag) : R2 := fun x y H Q => ∃ l xs, x = .ref l ∧ y = V.int 1 ∧ SqT K H l xs ∧ Q (.ref l) H
theorem op_rep1 {X : Cx} : OpR X (binaryOp .Mult) (rRep1 X.K) := by
  intro pins s σ H x y v u Q I rx ry h
  obtain ⟨l, xs, rfl, rfl, hT, q⟩ := h
  cases rx
  obtain ⟨t, rfl⟩ := ry
  obtain ⟨its, r, ⟨⟨cls, dd, data, sl⟩, ho, hc, n, hd⟩, hs⟩ := I.tuple hT
  simp only at hc hd
  subst hc hd
  exact wpAny_binaryOp_repeat_ref (T := "tuple") (U := "int") (by decide) ⟨_, ho, rfl⟩ (fun s' => typeIs_int s' 1 t) L2.noFill_tuple_mul F.fills_int_mul F.slot_int_rmul L2.repeat_tuple F.slot_int_index.lookup
    (call_meets F.slot_int_rmul (typeIs_int s 1 t) F.entry_int_rmul (F.args_int_rmul_2 _ _) (L2.int_rmul_tuple 1 t l its.toArray n dd sl)
      ⟨ho, rfl, ⟨_, ho, rfl⟩, call_meets F.slot_tuple_mul ⟨_, ho, rfl⟩ F.entry_tuple_mul (F.args_tuple_mul_2 _ _) (tuple_mul1 l its.toArray n dd sl t) ⟨ho, ⟨.ref l, H, I, rfl, q⟩⟩⟩)
end
end Dl
namespace Dl
open PySem L2
def opMulA : D → D → Option D
  | .tup ds, .int k => if k = 1 then some (.tup ds) else if ds ≠ [] ∧ 2 ≤ k ∧ k ≤ 1000 ∧ ds.length ≤ 1000 then some (.tup (List.replicate k.toNat ds).flatten) else none
  | x, y => opMul x y
def rMulA (K : PySem.W.Frag) : R2 := fun x y H Q => (rI CMul fun i j => .int (i * j)) x y H Q ∨ rRep1 K x y H Q ∨ rRepT K x y H Q
section
variable {K : PySem.W.Frag} {mg : MG} {X : Cx} {W : WX}
theorem Reps.rep {G : Hp} {ds : List D} {vs : List V} (r : Reps K mg G ds vs) : ∀ k : Nat, Reps K mg G (List.replicate k ds).flatten (List.replicate k vs).flatten
  | 0 => by simp [reps_nil]
  | k + 1 => by rw [List.replicate_succ, List.replicate_succ, List.flatten_cons, List.flatten_cons]; exact r.append (Reps.rep r k)
theorem op_mulA : OpR X (binaryOp .Mult) (rMulA X.K) := op_mul.or (op_rep1.or op_repT)
theorem bop_mulA : Bop K mg (rMulA K) opMulA := by
  intro G H x y d v1 v2 Q s e r1 r2 k
  unfold opMulA at e
  split at e
  · rename_i ds n
    have q1 := r1
    rw [rep_tup] at r1
    obtain ⟨a, vs, rfl, h1, h2⟩ := r1
    rw [rep_int] at r2
    subst r2
    split at e
    · rename_i h
      cases e
      subst h
      exact .inr (.inl ⟨a, vs, rfl, rfl, Same.sqT s h1, k _ G H (Grow.refl s) q1⟩)
    · split at e
      · rename_i hb
        cases e
        obtain ⟨hne, g1, g2, g3⟩ := hb
        refine .inr (.inr ⟨a, n, vs, rfl, rfl, Same.sqT s h1, fun z => hne ?_, g1, g2, by rw [h2.length]; exact g3, fun p hp => k _ _ _ (Grow.put s hp) (rep_newT (H := H) (s.free hp) (h2.rep _))⟩)
        have := h2.length
        rw [z] at this
        exact List.eq_nil_of_length_eq_zero this.symm
      · cases e
  · exact .inl (bop_mul G H x y d v1 v2 Q s e r1 r2 k)
theorem de_mulA {a b : Expr} {pos : Pos} {f g : FE D} (ja : De X W a f) (jb : De X W b g) : De X W (.BinOp a .Mult b pos) (eBin opMulA f g) := de_bin op_mulA bop_mulA ja jb
def cutD (ds : List D) (lo hi : Option Int) : List D := (ds.drop (HT.sIx ds.length 0 lo)).take (HT.sIx ds.length ds.length hi - HT.sIx ds.length 0 lo)
theorem cut_reps {G : Hp} {ds : List D} {vs : List V} (lo hi : Option Int) (r : Reps K mg G ds vs) : Reps K mg G (cutD ds lo hi) (cutV vs lo hi) := by
  unfold cutD cutV
  rw [r.length]
  exact (r.drop _).take _
theorem cut_whole {ds : List D} {lo hi : Option Int} (h : HT.sIx ds.length 0 lo = 0 ∧ HT.sIx ds.length ds.length hi = ds.length) : cutD ds lo hi = ds := by
  unfold cutD
  rw [h.1, h.2]
  simp
def slD (lo hi : Option Int) : D → Option D
  | .tup ds => some (.tup (cutD ds lo hi))
  | .lst ds => some (.lst (cutD ds lo hi))
  | _ => none
def asI : D → Option (Option Int)
  | .int i => some (some i)
  | _ => none
def ePart (f : FE D) : FE (Option Int) := fun ρ ω => (f ρ ω).bind fun d ω1 => Res.lift (asI d) ω1
def eNoPart : FE (Option Int) := fun _ ω => .ok none ω
def RO : Hp → List Addr → Hp → Option Int → Option Int → Prop := fun _ _ _ a b => a = b
def Do (X : Cx) (W : WX) (e : Option Expr) (f : FE (Option Int)) : Prop :=
  ∃ t, PO X e t ∧ ∀ G α ρ ω σ H Q, Own X.K X.mg G α ω H → Slots X.K X.mg G α ρ σ → Post X.K X.mg RO G α H Q (fun c d H' => W c d σ H') (f ρ ω) → t σ H Q
theorem do_none : Do X W none eNoPart := ⟨_, po_none, fun G α ρ ω σ H Q O S P => Post.here O rfl P⟩
theorem do_some {e : Expr} {f : FE D} (h : De X W e f) : Do X W (some e) (ePart f) := by
  obtain ⟨t, p, j⟩ := h
  refine ⟨_, po_some p, fun G α ρ ω σ H Q O S P => ?_⟩
  refine Post.step (t := t σ H) (j G α ρ ω σ H · O S) P fun d ω1 v G1 α1 H1 e1 O1 r1 P1 => ?_
  obtain ⟨o, e2, P2⟩ := P1.lift
  cases d with
  | int i =>
    cases e2
    exact ⟨i, rep_int.mp (show Rep X.K X.mg G1 (.int i) v from r1), Post.here O1 rfl P2⟩
  | _ => cases e2
def eSl (f : FE D) (lo hi : FE (Option Int)) : FE D := fun ρ ω => (f ρ ω).bind fun d ω1 => (lo ρ ω1).bind fun l ω2 => (hi ρ ω2).bind fun h ω3 => Res.lift (slD l h d) ω3
def rSlB (K : PySem.W.Frag) : V → Option Int → Option Int → Hp → VK → Prop := fun x lo hi H Q => rSlA K x lo hi H Q ∨ rSlL K x lo hi H Q
theorem sl_both : SlR X (rSlB X.K) := sl_tupA.or sl_list
theorem de_slice {e : Expr} {lo hi : Option Expr} {f : FE D} {fl fh : FE (Option Int)} {p2 pos : Pos} (h : De X W e f) (hl : Do X W lo fl) (hh : Do X W hi fh) : De X W (.Subscript e (.Slice lo hi none p2) pos) (eSl f fl fh) := by
  obtain ⟨t, p, j⟩ := h
  obtain ⟨tl, pl, jl⟩ := hl
  obtain ⟨th, ph, jh⟩ := hh
  refine ⟨_, pe_slice sl_both p pl ph, fun G α ρ ω σ H Q O S P => ?_⟩
  refine Post.step (t := t σ H) (j G α ρ ω σ H · O S) P fun d ω1 v G1 α1 H1 e1 O1 r1 P1 => ?_
  refine Post.step (t := tl σ H1) (jl G1 α1 ρ ω1 σ H1 · O1 (S.mono e1)) P1 fun l ω2 l' G2 α2 H2 e2 O2 r2 P2 => ?_
  refine Post.step (t := th σ H2) (jh G2 α2 ρ ω2 σ H2 · O2 ((S.mono e1).mono e2)) P2 fun u ω3 u' G3 α3 H3 e3 O3 r3 P3 => ?_
  cases r2
  cases r3
  obtain ⟨y, e4, P4⟩ := P3.lift
  have r1' : Rep X.K X.mg G3 d v := Rep.mono (e2.g.trans e3.g) _ _ r1
  cases d with
  | tup ds =>
    cases e4
    have q := r1'
    rw [rep_tup] at r1'
    obtain ⟨a, vs, rfl, h1, h2⟩ := r1'
    refine .inl ⟨a, vs, rfl, Same.sqT O3.sub h1, fun z => ?_, fun z p hp => ?_⟩
    · rw [h2.length] at z
      exact Post.here O3 (show Rep X.K X.mg G3 _ _ by rw [cut_whole z]; exact q) P4
    · exact Post.grow O3 (Grow.put O3.sub hp) (show Rep X.K X.mg _ _ _ from rep_newT (H := H3) (O3.sub.free hp) (cut_reps _ _ h2)) P4
  | lst ds =>
    cases e4
    rw [rep_lst] at r1'
    obtain ⟨a, vs, rfl, h1, h2⟩ := r1'
    exact .inr ⟨a, vs, rfl, O3.sub.seq h1, fun p hp => Post.grow O3 (Grow.put O3.sub hp) (show Rep X.K X.mg _ _ _ from rep_newL (H := H3) (O3.sub.free hp) (cut_reps _ _ h2)) P4⟩
  | _ => cases e4
def eChain (op op' : D → D → Option D) (f g h : FE D) : FE D := fun ρ ω => (f ρ ω).bind fun x ω1 => (g ρ ω1).bind fun y ω2 => match op x y with
  | some (.bl true) => (h ρ ω2).bind fun z ω3 => Res.lift (op' y z) ω3
  | some (.bl false) => .ok (.bl false) ω2
  | _ => .stuck
theorem chain_post {r r' : R2} {op op' : D → D → Option D} {f g h : FE D} {ta tb tc : TE} (B : Bop K mg r op) (B' : Bop K mg r' op')
    (ja : ∀ G α ρ ω σ H Q, Own K mg G α ω H → Slots K mg G α ρ σ → Post K mg (RD K mg) G α H Q (fun c d H' => W c d σ H') (f ρ ω) → ta σ H Q)
    (jb : ∀ G α ρ ω σ H Q, Own K mg G α ω H → Slots K mg G α ρ σ → Post K mg (RD K mg) G α H Q (fun c d H' => W c d σ H') (g ρ ω) → tb σ H Q)
    (jc : ∀ G α ρ ω σ H Q, Own K mg G α ω H → Slots K mg G α ρ σ → Post K mg (RD K mg) G α H Q (fun c d H' => W c d σ H') (h ρ ω) → tc σ H Q)
    (G α ρ ω σ H Q) (O : Own K mg G α ω H) (S : Slots K mg G α ρ σ) (P : Post K mg (RD K mg) G α H Q (fun c d H' => W c d σ H') (eChain op op' f g h ρ ω)) : tChain r r' ta tb tc σ H Q := by
  refine Post.step (t := ta σ H) (ja G α ρ ω σ H · O S) P fun x ω1 v1 G1 α1 H1 e1 O1 r1 P1 => ?_
  refine Post.step (t := tb σ H1) (jb G1 α1 ρ ω1 σ H1 · O1 (S.mono e1)) P1 fun y ω2 v2 G2 α2 H2 e2 O2 r2 P2 => ?_
  cases q : op x y with
  | none => rw [q] at P2; exact P2.elim
  | some d =>
    rw [q] at P2
    cases d with
    | bl b =>
      refine B G2 H2 x y _ v1 v2 _ O2.sub q (Rep.mono e2.g _ _ r1) r2 fun v G3 H3 gr rv => ?_
      refine ⟨b, rep_bl.mp rv, ?_⟩
      have O3 := O2.grow gr
      have e3 : Ext G2 α2 H2 G3 α2 H3 := gr.ext
      cases b with
      | false => exact iteF (Post.here O3 (show Rep K mg G3 _ _ from rep_bl.mpr rfl) (Post.weak e3 P2))
      | true =>
        refine iteT ?_
        refine Post.step (t := tc σ H3) (jc G3 α2 ρ ω2 σ H3 · O3 (((S.mono e1).mono e2).mono e3)) (Post.weak e3 P2) fun z ω4 v4 G4 α4 H4 e4 O4 r4 P4 => ?_
        exact bin_post B' O4 (Rep.mono (e3.g.trans e4.g) _ _ r2) r4 P4
    | _ => exact P2.elim
theorem de_chain {o o' : CmpOp} {op op' : D → D → Option D} {a b c : Expr} {pos : Pos} {f g h : FE D} (c1 : Cmp X o op) (c2 : Cmp X o' op') (ja : De X W a f) (jb : De X W b g) (jc : De X W c h) (hm : lastMarks [o, o'] [b, c] = false := by with_unfolding_all rfl) :
    De X W (.Compare a [o, o'] [b, c] pos) (eChain op op' f g h) := by
  obtain ⟨r, h1, h2⟩ := c1.ex
  obtain ⟨r', h3, h4⟩ := c2.ex
  obtain ⟨ta, pa, ka⟩ := ja
  obtain ⟨tb, pb, kb⟩ := jb
  obtain ⟨tc, pc, kc⟩ := jc
  exact ⟨_, pe_chain h1 h3 pa pb pc hm, chain_post h2 h4 ka kb kc⟩
theorem dt_chain {o o' : CmpOp} {op op' : D → D → Option D} {a b c : Expr} {pos : Pos} {f g h : FE D} (c1 : Cmp X o op) (c2 : Cmp X o' op') (ja : De X W a f) (jb : De X W b g) (jc : De X W c h) (hm : lastMarks [o, o'] [b, c] = false := by with_unfolding_all rfl) :
    Dt X W (.Compare a [o, o'] [b, c] pos) (eTest (eChain op op' f g h)) := by
  obtain ⟨r, h1, h2⟩ := c1.ex
  obtain ⟨r', h3, h4⟩ := c2.ex
  obtain ⟨ta, pa, ka⟩ := ja
  obtain ⟨tb, pb, kb⟩ := jb
  obtain ⟨tc, pc, kc⟩ := jc
  exact ⟨_, pt_chain h1 h3 pa pb pc hm, test_post (chain_post h2 h4 ka kb kc)⟩
def opNeg : D → Option D
  | .int i => some (.int (-i))
  | _ => none
def eUn (op : D → Option D) (f : FE D) : FE D := fun ρ ω => (f ρ ω).bind fun d ω1 => Res.lift (op d) ω1
theorem de_neg {a : Expr} {pos : Pos} {f : FE D} (h : De X W a f) : De X W (.UnaryOp .USub a pos) (eUn opNeg f) := by
  obtain ⟨t, p, j⟩ := h
  refine ⟨_, pe_un un_neg p, fun G α ρ ω σ H Q O S P => ?_⟩
  refine Post.step (t := t σ H) (j G α ρ ω σ H · O S) P fun d ω1 v G1 α1 H1 e1 O1 r1 P1 => ?_
  obtain ⟨y, e2, P2⟩ := P1.lift
  cases d with
  | int i =>
    cases e2
    exact ⟨i, rep_int.mp (show Rep X.K X.mg G1 (.int i) v from r1), Post.here O1 (show Rep X.K X.mg G1 _ _ from rep_int.mpr rfl) P2⟩
  | _ => cases e2
def ixI (ds : List D) : D → Option D
  | .int i => atI ds i
  | _ => none
def eIxO (i : Nat) (g : FE D) : FE D := fun ρ ω => match ownK ρ i with
  | none => .stuck
  | some k => (g ρ ω).bind fun z ω1 => match ownL ω1 k with
    | none => .stuck
    | some ds => Res.lift (ixI ds z) ω1
theorem de_ixO (i : Nat) {x : Str} {p1 pos : Pos} {b : Expr} {g : FE D} (jb : De X W b g) (hN : X.N[i]? = some x := by rfl) (hv : Vis X.env.scope x := by first | exact Or.inl rfl | exact Or.inr (Or.inl rfl) | exact Or.inr (Or.inr rfl)) (hd : (x == ("__debug__" : Str)) = false := by decide)
    (hcd : (x == ("__classdict__" : Str)) = false := by decide) (hs : PlainIx b := by exact fun _ _ => rfl) : De X W (.Subscript (.Name x p1) b pos) (eIxO i g) := by
  obtain ⟨tb, pb, kb⟩ := jb
  refine ⟨_, pe_ix ix_list (pe_var hN hv hd hcd) pb hs, fun G α ρ ω σ H Q O S P => ?_⟩
  unfold eIxO at P
  cases q1 : ownK ρ i with
  | none => rw [q1] at P; exact P.elim
  | some kk =>
    rw [q1] at P; dsimp only at P
    obtain ⟨v, h1, a, h2, rfl⟩ := S.val i _ (ownK_eq q1)
    refine ⟨_, h1, ?_⟩
    refine Post.step (t := tb σ H) (kb G α ρ ω σ H · O S) P fun z ω1 v1 G1 α1 H1 e1 O1 r1 P1 => ?_
    cases q3 : ownL ω1 kk with
    | none => rw [q3] at P1; exact P1.elim
    | some ds =>
      rw [q3] at P1; dsimp only at P1
      obtain ⟨y, e2, P2⟩ := P1.lift
      obtain ⟨more, e3, _⟩ := e1.pre
      have h2' : α1[kk]? = some a := by rw [e3, List.getElem?_append_left (List.getElem?_eq_some_iff.mp h2).1]; exact h2
      obtain ⟨_, vs, h5, h6⟩ := O1.obj kk _ a (ownL_eq q3) h2'
      cases z with
      | int n =>
        obtain ⟨u, h7, h8⟩ := atI_reps h6 e2
        exact ⟨a, vs, n, u, rfl, rep_int.mp (show Rep X.K X.mg G1 (.int n) v1 from r1), SqL.of h5, h7, Post.here O1 (show Rep X.K X.mg G1 y u from h8) P2⟩
      | _ => cases e2
def sRetNew (g : FE (List SV)) : FS := fun ρ ω => (g ρ ω).out ρ fun xs ω1 => match allD xs with
  | some ds => if xs.length ≤ lim then .ret (.own ω1.length) (ω1 ++ [some (.lst ds)]) else .stuck
  | none => .stuck
theorem ds_retNew {es : List Expr} {p1 pos : Pos} {g : FE (List SV)} (h : Da X W es g) : Ds X W (.Return (some (.List es p1)) pos) (sRetNew g) := by
  obtain ⟨t, p, k⟩ := h
  refine ⟨_, ps_ret (pe_lst p), fun G α ρ ω σ H D O S P => ?_⟩
  refine PostS.step S (t := t σ H) (k G α ρ ω σ H · O S) P fun xs ω1 vs G1 α1 H1 e1 O1 r1 P1 => ?_
  cases q : allD xs with
  | none => rw [q] at P1; exact P1.elim
  | some ds =>
    rw [q] at P1
    dsimp only at P1
    split at P1
    · rename_i hl
      have hr := allD_reps q r1
      refine ⟨by rw [lim_eq, ← RepVs.length r1]; exact hl, fun a ha => ?_⟩
      obtain ⟨O2, e2⟩ := O1.new (u := .lst vs) (o := .lst ds) ha ⟨vs, upd_same, hr⟩
      refine P1 _ G1 _ _ e2 O2 ⟨a, ?_, rfl⟩
      rw [← O1.len, List.getElem?_append_right (Nat.le_refl _)]
      simp
    · exact P1.elim
end
end Dl
namespace Dl
open PySem L2
def lcA (tg : FG) (tt : FE Bool) (el : FE D) (ρ : Rho) : List D → List D → Om → Res (List D)
  | [], acc, ω => .ok acc ω
  | d :: ds, acc, ω => match tg d ρ with
    | none => .stuck
    | some ρ1 => match tt ρ1 ω with
      | .ok true ω1 => match el ρ1 ω1 with
        | .ok y ω2 => if acc.length < lim then lcA tg tt el ρ ds (acc ++ [y]) ω2 else .stuck
        | _ => .stuck
      | .ok false ω1 => lcA tg tt el ρ ds acc ω1
      | _ => .stuck
def lc2L (tg : FG) (tt : FE Bool) (it1 : FE (List D)) (tg1 : FG) (tt1 : FE Bool) (el : FE D) (vs1 : List Nat) (ρ : Rho) : List D → List D → Om → Res D
  | [], acc, ω => .ok (.lst acc) ω
  | d :: ds, acc, ω => match tg d ρ with
    | none => .stuck
    | some ρ1 => match tt ρ1 ω with
      | .ok true ω1 => match it1 ρ1 ω1 with
        | .ok es ω2 => match lcA tg1 tt1 el (wipeR ρ1 vs1) es acc ω2 with
          | .ok acc2 ω3 => lc2L tg tt it1 tg1 tt1 el vs1 ρ ds acc2 ω3
          | _ => .stuck
        | _ => .stuck
      | .ok false ω1 => lc2L tg tt it1 tg1 tt1 el vs1 ρ ds acc ω1
      | _ => .stuck
def eLc2 (vs vs1 : List Nat) (it : FE (List D)) (tg : FG) (tt : FE Bool) (it1 : FE (List D)) (tg1 : FG) (tt1 : FE Bool) (el : FE D) : FE D := fun ρ ω => (it ρ ω).bind fun ds ω1 => lc2L tg tt it1 tg1 tt1 el vs1 (wipeR ρ vs) ds [] ω1
section
variable {K : PySem.W.Frag} {mg : MG}
end
section
variable {X : Cx} {W : WX} {pos : Pos}
end
end Dl
namespace Dl
open PySem L2
structure DefAt (K : PySem.W.Frag) (x qual : Str) (st : Stmt) (f : Addr) (fd : FuncData) (ps : List Str) : Prop where
  fn : Fun K x qual st f fd
  bd : Binds K fd ps []
theorem ask_int {K : PySem.W.Frag} : TyAsk K "int" := fun t ht => kit_ty ((by decide +kernel : ∀ t ∈ tyNames, kitB t "int" = some (isTy t "int")) t ht)
theorem ask_bool {K : PySem.W.Frag} : TyAsk K "bool" := fun t ht => kit_ty ((by decide +kernel : ∀ t ∈ tyNames, kitB t "bool" = some (isTy t "bool")) t ht)
theorem ask_tuple {K : PySem.W.Frag} : TyAsk K "tuple" := fun t ht => kit_ty ((by decide +kernel : ∀ t ∈ tyNames, kitB t "tuple" = some (isTy t "tuple")) t ht)
def spLaw (K : PySem.W.Frag) : Sp := fun vs H Q _ => ∃ (a : Addr) (ns : List Int), vs = [.ref a] ∧ SqL K H a (ns.map V.int) ∧ ns.length ≤ 63 ∧ ∀ H', Q (.bl true) H'
theorem law_ok {P : Program} {w : World} {K : PySem.W.Frag} {mg : MG} {base : Heap} {k : Nat} {f : Addr} {fd : FuncData} {ps : List Str} {F : FnP} (hF : ∀ ns : List Int, ns.length ≤ 63 → F [.lst (ns.map D.int)] = some (.ok (.bl true)))
    (ok : FnOk P w K mg base (L2.CX P w) k f fd ps (spP K mg F)) : FnOk P w K mg base (L2.CX P w) k f fd ps (spLaw K) := by
  refine ok.imp fun vs H Q E h => ?_
  obtain ⟨a, ns, rfl, hS, hl, q⟩ := h
  refine ⟨H, [.lst (ns.map D.int)], Same.refl _, Reps.one (rep_lst.mpr ⟨a, _, rfl, hS, reps_ints ns⟩), ?_⟩
  rw [hF ns hl]
  intro v G' H' g r
  rw [rep_bl.mp r]
  exact q H'
theorem walk {l : PySem.W.OpenLaw} {q : Program} {loose : List Str} {XP : (Str → Option Value) → Heap → Prop} {YP : World → Heap → Prop} {d : DefRec} {K : Params → PySem.W.Frag} {k : Nat} {x : Str} (hn : l.most = some 63) (hdf : d.params.defaults = []) (hk : k ≤ 60)
    (hY : ∀ (w : World) (h : Heap), YP w h → (K w.params).In h)
    (F : ∀ (w : World) (mg : Str → Option Value) (fa : Addr) (h : Heap), (K w.params).In h → h.Ns mainGlobals mg → mg d.name = some (.ref fa) →
      ∃ fd : FuncData, (∀ (s : Shared) (u : Value), BindsTo s fd ⟨[u], []⟩ [(x, u)]) ∧ ∀ base : Heap, (K w.params).In base → base.Ns mainGlobals mg → FnOk l.prog w (K w.params) mg base (L2.CX l.prog w) k fa fd [x] (spLaw (K w.params))) :
    PySem.W.WalkO q loose XP YP l.row.toRowW d [] (fun f vs => PySem.call f vs) :=
  L2.walk_of (n := 63) (k := k) (x := x) (CX := fun w => L2.CX l.prog w) (sp := fun w => spLaw (K w.params)) hn (by decide) hdf (Room.mono ⟨rfl, by decide, by decide⟩ hk) hY F (fun _ _ a ns hl _ hS => ⟨a, ns, rfl, hS, hl, fun _ => rfl⟩)
    fun _ _ _ _ _ z => by
      obtain ⟨_, _, _, _, _, _, _, _, _, _, _, _, z⟩ := z
      exact z.elim
end Dl
namespace Dl
open PySem L2
theorem eqD_int (i j : Int) : eqD (.int i) (.int j) = some (i == j) := by
  simp [eqD, toPy, SeqAt.shaped, PyData.canLay0, PyData.depth, PyData.eqv]
theorem eqD_bl (i j : Bool) : eqD (.bl i) (.bl j) = some (i == j) := by
  simp [eqD, toPy, SeqAt.shaped, PyData.canLay0, PyData.depth, PyData.eqv]
theorem eqD_non_non : eqD .non .non = some true := by
  simp [eqD, toPy, SeqAt.shaped, PyData.canLay0, PyData.depth, PyData.eqv]
theorem eqD_str {i j : Str} (hi : PyData.strOk i = true) (hj : PyData.strOk j = true) : eqD (.str i) (.str j) = some (i == j) := by
  simp [eqD, toPy, SeqAt.shaped, PyData.canLay0, PyData.depth, PyData.eqv, hi, hj]
class KtR (β γ : Type) where
  run : β → Om → Res γ
class KtO (β : Type) where
  run : β → Om → Out
class KtB where
  run : Rho → Om → Out
class KtS (β γ : Type) where
  run : β → Res γ
class KtT (β : Type) where
  run : β → Out
class KtC where
  run : Om → Res D
def bindL {β γ : Type} (r : Res β) [k : KtR β γ] : Res γ := r.bind k.run
def outL {β : Type} (r : Res β) (ρ : Rho) [k : KtO β] : Out := r.out ρ k.run
def obL (r : Out) [k : KtB] : Out := r.bind k.run
section
variable {β γ : Type} {d x y : D} {ds es : List D} {ρ : Rho} {ω : Om} {i j k : Nat}
theorem bind_ok (a : β) (ω : Om) (g : β → Om → Res γ) : @bindL _ _ (Res.ok a ω) ⟨g⟩ = g a ω := rfl
theorem bind_exc (x : Exn) (ω : Om) (g : β → Om → Res γ) : @bindL _ _ (Res.exc x ω) ⟨g⟩ = .exc x ω := rfl
theorem out_ok (a : β) (ω : Om) (ρ : Rho) (g : β → Om → Out) : @outL _ (Res.ok a ω) ρ ⟨g⟩ = g a ω := rfl
theorem out_exc (x : Exn) (ω : Om) (ρ : Rho) (g : β → Om → Out) : @outL _ (Res.exc x ω) ρ ⟨g⟩ = .exc x ρ ω := rfl
theorem lift_some (a : β) (ω : Om) : Res.lift (some a) ω = .ok a ω := rfl
theorem obind_next (ρ : Rho) (ω : Om) (k : Rho → Om → Out) : @obL (Out.next ρ ω) ⟨k⟩ = k ρ ω := rfl
theorem obind_ret (x : SV) (ω : Om) (k : Rho → Om → Out) : @obL (Out.ret x ω) ⟨k⟩ = .ret x ω := rfl
theorem obind_exc (x : Exn) (ρ : Rho) (ω : Om) (k : Rho → Om → Out) : @obL (Out.exc x ρ ω) ⟨k⟩ = .exc x ρ ω := rfl
theorem obind_brk (ρ : Rho) (ω : Om) (k : Rho → Om → Out) : @obL (Out.brk ρ ω) ⟨k⟩ = .brk ρ ω := rfl
theorem obind_cont (ρ : Rho) (ω : Om) (k : Rho → Om → Out) : @obL (Out.cont ρ ω) ⟨k⟩ = .cont ρ ω := rfl
def varR : Option (Option SV) → Om → Res D
  | some (some (.val d)), ω => .ok d ω
  | _, _ => .stuck
def slotR : Option (Option SV) → Om → Res SV
  | some (some x), ω => .ok x ω
  | _, _ => .stuck
theorem eC_run : eC d ρ ω = .ok d ω := rfl
theorem eVar_run : eVar i ρ ω = varR ρ[i]? ω := by unfold eVar varR; split <;> simp_all
theorem varR_run : varR (some (some (.val d))) ω = .ok d ω := rfl
theorem eSlot_run : eSlot i ρ ω = slotR ρ[i]? ω := by unfold eSlot slotR; split <;> simp_all
theorem slotR_run {s : SV} : slotR (some (some s)) ω = .ok s ω := rfl
theorem eBin_run0 (op) (f g : FE D) : eBin op f g ρ ω = (f ρ ω).bind fun x ω1 => (g ρ ω1).bind fun y ω2 => Res.lift (op x y) ω2 := rfl
theorem eBin_run (op) (f g : FE D) : eBin op f g ρ ω = bindL (f ρ ω) (k := ⟨fun x ω1 => bindL (g ρ ω1) (k := ⟨fun y ω2 => Res.lift (op x y) ω2⟩)⟩) := by first | exact eBin_run0 | exact eBin_run0 _ | exact eBin_run0 _ _ | exact eBin_run0 _ _ _ | exact eBin_run0 _ _ _ _ | exact eBin_run0 _ _ _ _ _ | exact eBin_run0 _ _ _ _ _ _ | exact eBin_run0 _ _ _ _ _ _ _ | exact eBin_run0 _ _ _ _ _ _ _ _ | exact eBin_run0 _ _ _ _ _ _ _ _ _
theorem eUn_run0 (op) (f : FE D) : eUn op f ρ ω = (f ρ ω).bind fun x ω1 => Res.lift (op x) ω1 := rfl
theorem eUn_run (op) (f : FE D) : eUn op f ρ ω = bindL (f ρ ω) (k := ⟨fun x ω1 => Res.lift (op x) ω1⟩) := by first | exact eUn_run0 | exact eUn_run0 _ | exact eUn_run0 _ _ | exact eUn_run0 _ _ _ | exact eUn_run0 _ _ _ _ | exact eUn_run0 _ _ _ _ _ | exact eUn_run0 _ _ _ _ _ _ | exact eUn_run0 _ _ _ _ _ _ _ | exact eUn_run0 _ _ _ _ _ _ _ _ | exact eUn_run0 _ _ _ _ _ _ _ _ _
theorem eTest_run0 (f : FE D) : eTest f ρ ω = (f ρ ω).bind fun d ω1 => Res.lift (asBl d) ω1 := rfl
theorem eTest_run (f : FE D) : eTest f ρ ω = bindL (f ρ ω) (k := ⟨fun d ω1 => Res.lift (asBl d) ω1⟩) := by first | exact eTest_run0 | exact eTest_run0 _ | exact eTest_run0 _ _ | exact eTest_run0 _ _ _ | exact eTest_run0 _ _ _ _ | exact eTest_run0 _ _ _ _ _ | exact eTest_run0 _ _ _ _ _ _ | exact eTest_run0 _ _ _ _ _ _ _ | exact eTest_run0 _ _ _ _ _ _ _ _ | exact eTest_run0 _ _ _ _ _ _ _ _ _
theorem asBl_run (b : Bool) : asBl (.bl b) = some b := rfl
theorem eAndT_run0 (f g : FE Bool) : eAndT f g ρ ω = (f ρ ω).bind fun c ω1 => if c = true then g ρ ω1 else .ok false ω1 := rfl
theorem eAndT_run (f g : FE Bool) : eAndT f g ρ ω = bindL (f ρ ω) (k := ⟨fun c ω1 => if c = true then g ρ ω1 else .ok false ω1⟩) := by first | exact eAndT_run0 | exact eAndT_run0 _ | exact eAndT_run0 _ _ | exact eAndT_run0 _ _ _ | exact eAndT_run0 _ _ _ _ | exact eAndT_run0 _ _ _ _ _ | exact eAndT_run0 _ _ _ _ _ _ | exact eAndT_run0 _ _ _ _ _ _ _ | exact eAndT_run0 _ _ _ _ _ _ _ _ | exact eAndT_run0 _ _ _ _ _ _ _ _ _
theorem eOrT_run0 (f g : FE Bool) : eOrT f g ρ ω = (f ρ ω).bind fun c ω1 => if c = true then .ok true ω1 else g ρ ω1 := rfl
theorem eOrT_run (f g : FE Bool) : eOrT f g ρ ω = bindL (f ρ ω) (k := ⟨fun c ω1 => if c = true then .ok true ω1 else g ρ ω1⟩) := by first | exact eOrT_run0 | exact eOrT_run0 _ | exact eOrT_run0 _ _ | exact eOrT_run0 _ _ _ | exact eOrT_run0 _ _ _ _ | exact eOrT_run0 _ _ _ _ _ | exact eOrT_run0 _ _ _ _ _ _ | exact eOrT_run0 _ _ _ _ _ _ _ | exact eOrT_run0 _ _ _ _ _ _ _ _ | exact eOrT_run0 _ _ _ _ _ _ _ _ _
theorem eNotT_run0 (f : FE Bool) : eNotT f ρ ω = (f ρ ω).bind fun c ω1 => .ok (!c) ω1 := rfl
theorem eNotT_run (f : FE Bool) : eNotT f ρ ω = bindL (f ρ ω) (k := ⟨fun c ω1 => .ok (!c) ω1⟩) := by first | exact eNotT_run0 | exact eNotT_run0 _ | exact eNotT_run0 _ _ | exact eNotT_run0 _ _ _ | exact eNotT_run0 _ _ _ _ | exact eNotT_run0 _ _ _ _ _ | exact eNotT_run0 _ _ _ _ _ _ | exact eNotT_run0 _ _ _ _ _ _ _ | exact eNotT_run0 _ _ _ _ _ _ _ _ | exact eNotT_run0 _ _ _ _ _ _ _ _ _
theorem eTrue_run : eTrue ρ ω = .ok true ω := rfl
theorem eAnd_run0 (f g : FE D) : eAnd f g ρ ω = (eTest f ρ ω).bind fun c ω1 => if c = true then g ρ ω1 else .ok (.bl false) ω1 := rfl
theorem eAnd_run (f g : FE D) : eAnd f g ρ ω = bindL (eTest f ρ ω) (k := ⟨fun c ω1 => if c = true then g ρ ω1 else .ok (.bl false) ω1⟩) := by first | exact eAnd_run0 | exact eAnd_run0 _ | exact eAnd_run0 _ _ | exact eAnd_run0 _ _ _ | exact eAnd_run0 _ _ _ _ | exact eAnd_run0 _ _ _ _ _ | exact eAnd_run0 _ _ _ _ _ _ | exact eAnd_run0 _ _ _ _ _ _ _ | exact eAnd_run0 _ _ _ _ _ _ _ _ | exact eAnd_run0 _ _ _ _ _ _ _ _ _
theorem eOr_run0 (f g : FE D) : eOr f g ρ ω = (eTest f ρ ω).bind fun c ω1 => if c = true then .ok (.bl true) ω1 else g ρ ω1 := rfl
theorem eOr_run (f g : FE D) : eOr f g ρ ω = bindL (eTest f ρ ω) (k := ⟨fun c ω1 => if c = true then .ok (.bl true) ω1 else g ρ ω1⟩) := by first | exact eOr_run0 | exact eOr_run0 _ | exact eOr_run0 _ _ | exact eOr_run0 _ _ _ | exact eOr_run0 _ _ _ _ | exact eOr_run0 _ _ _ _ _ | exact eOr_run0 _ _ _ _ _ _ | exact eOr_run0 _ _ _ _ _ _ _ | exact eOr_run0 _ _ _ _ _ _ _ _ | exact eOr_run0 _ _ _ _ _ _ _ _ _
theorem eNot_run0 (f : FE D) : eNot f ρ ω = (eTest f ρ ω).bind fun c ω1 => .ok (.bl (!c)) ω1 := rfl
theorem eNot_run (f : FE D) : eNot f ρ ω = bindL (eTest f ρ ω) (k := ⟨fun c ω1 => .ok (.bl (!c)) ω1⟩) := by first | exact eNot_run0 | exact eNot_run0 _ | exact eNot_run0 _ _ | exact eNot_run0 _ _ _ | exact eNot_run0 _ _ _ _ | exact eNot_run0 _ _ _ _ _ | exact eNot_run0 _ _ _ _ _ _ | exact eNot_run0 _ _ _ _ _ _ _ | exact eNot_run0 _ _ _ _ _ _ _ _ | exact eNot_run0 _ _ _ _ _ _ _ _ _
theorem eIf_run0 (c : FE Bool) (f g : FE D) : eIf c f g ρ ω = (c ρ ω).bind fun b ω1 => if b = true then f ρ ω1 else g ρ ω1 := rfl
theorem eIf_run (c : FE Bool) (f g : FE D) : eIf c f g ρ ω = bindL (c ρ ω) (k := ⟨fun b ω1 => if b = true then f ρ ω1 else g ρ ω1⟩) := by first | exact eIf_run0 | exact eIf_run0 _ | exact eIf_run0 _ _ | exact eIf_run0 _ _ _ | exact eIf_run0 _ _ _ _ | exact eIf_run0 _ _ _ _ _ | exact eIf_run0 _ _ _ _ _ _ | exact eIf_run0 _ _ _ _ _ _ _ | exact eIf_run0 _ _ _ _ _ _ _ _ | exact eIf_run0 _ _ _ _ _ _ _ _ _
theorem aNil_run : aNil ρ ω = .ok [] ω := rfl
theorem aCons_run0 (f : FE SV) (g : FE (List SV)) : aCons f g ρ ω = (f ρ ω).bind fun x ω1 => (g ρ ω1).bind fun xs ω2 => .ok (x :: xs) ω2 := rfl
theorem aCons_run (f : FE SV) (g : FE (List SV)) : aCons f g ρ ω = bindL (f ρ ω) (k := ⟨fun x ω1 => bindL (g ρ ω1) (k := ⟨fun xs ω2 => .ok (x :: xs) ω2⟩)⟩) := by first | exact aCons_run0 | exact aCons_run0 _ | exact aCons_run0 _ _ | exact aCons_run0 _ _ _ | exact aCons_run0 _ _ _ _ | exact aCons_run0 _ _ _ _ _ | exact aCons_run0 _ _ _ _ _ _ | exact aCons_run0 _ _ _ _ _ _ _ | exact aCons_run0 _ _ _ _ _ _ _ _ | exact aCons_run0 _ _ _ _ _ _ _ _ _
theorem aVal_run0 (f : FE D) : aVal f ρ ω = (f ρ ω).bind fun d ω1 => .ok (.val d) ω1 := rfl
theorem aVal_run (f : FE D) : aVal f ρ ω = bindL (f ρ ω) (k := ⟨fun d ω1 => .ok (.val d) ω1⟩) := by first | exact aVal_run0 | exact aVal_run0 _ | exact aVal_run0 _ _ | exact aVal_run0 _ _ _ | exact aVal_run0 _ _ _ _ | exact aVal_run0 _ _ _ _ _ | exact aVal_run0 _ _ _ _ _ _ | exact aVal_run0 _ _ _ _ _ _ _ | exact aVal_run0 _ _ _ _ _ _ _ _ | exact aVal_run0 _ _ _ _ _ _ _ _ _
theorem allD_nil : allD [] = some [] := rfl
theorem allD_cons (xs : List SV) : allD (.val d :: xs) = (allD xs).map (d :: ·) := rfl
def tupR (o : Option (List D)) (n : Nat) : Option D := if n ≤ lim then o.map D.tup else none
def lstR (o : Option (List D)) (n : Nat) : Option D := if n ≤ lim then o.map D.lst else none
theorem eTup_run0 (g : FE (List SV)) : eTup g ρ ω = (g ρ ω).bind fun xs ω1 => Res.lift (tupR (allD xs) xs.length) ω1 := rfl
theorem eTup_run (g : FE (List SV)) : eTup g ρ ω = bindL (g ρ ω) (k := ⟨fun xs ω1 => Res.lift (tupR (allD xs) xs.length) ω1⟩) := by first | exact eTup_run0 | exact eTup_run0 _ | exact eTup_run0 _ _ | exact eTup_run0 _ _ _ | exact eTup_run0 _ _ _ _ | exact eTup_run0 _ _ _ _ _ | exact eTup_run0 _ _ _ _ _ _ | exact eTup_run0 _ _ _ _ _ _ _ | exact eTup_run0 _ _ _ _ _ _ _ _ | exact eTup_run0 _ _ _ _ _ _ _ _ _
theorem eList_run0 (g : FE (List SV)) : eList g ρ ω = (g ρ ω).bind fun xs ω1 => Res.lift (lstR (allD xs) xs.length) ω1 := rfl
theorem eList_run (g : FE (List SV)) : eList g ρ ω = bindL (g ρ ω) (k := ⟨fun xs ω1 => Res.lift (lstR (allD xs) xs.length) ω1⟩) := by first | exact eList_run0 | exact eList_run0 _ | exact eList_run0 _ _ | exact eList_run0 _ _ _ | exact eList_run0 _ _ _ _ | exact eList_run0 _ _ _ _ _ | exact eList_run0 _ _ _ _ _ _ | exact eList_run0 _ _ _ _ _ _ _ | exact eList_run0 _ _ _ _ _ _ _ _ | exact eList_run0 _ _ _ _ _ _ _ _ _
theorem tupR_run {n : Nat} (h : n ≤ lim) : tupR (some ds) n = some (.tup ds) := by unfold tupR; rw [if_pos h]; rfl
theorem lstR_run {n : Nat} (h : n ≤ lim) : lstR (some ds) n = some (.lst ds) := by unfold lstR; rw [if_pos h]; rfl
theorem eLst_run0 (f : FE D) : eLst f ρ ω = (f ρ ω).bind fun d ω1 => Res.lift (asLst d) ω1 := rfl
theorem eLst_run (f : FE D) : eLst f ρ ω = bindL (f ρ ω) (k := ⟨fun d ω1 => Res.lift (asLst d) ω1⟩) := by first | exact eLst_run0 | exact eLst_run0 _ | exact eLst_run0 _ _ | exact eLst_run0 _ _ _ | exact eLst_run0 _ _ _ _ | exact eLst_run0 _ _ _ _ _ | exact eLst_run0 _ _ _ _ _ _ | exact eLst_run0 _ _ _ _ _ _ _ | exact eLst_run0 _ _ _ _ _ _ _ _ | exact eLst_run0 _ _ _ _ _ _ _ _ _
theorem asLst_run : asLst (.lst ds) = some ds := rfl
theorem eCallB_run0 (op) (g : FE (List SV)) : eCallB op g ρ ω = (g ρ ω).bind fun xs ω1 => Res.lift ((allD xs).bind op) ω1 := rfl
theorem eCallB_run (op) (g : FE (List SV)) : eCallB op g ρ ω = bindL (g ρ ω) (k := ⟨fun xs ω1 => Res.lift ((allD xs).bind op) ω1⟩) := by first | exact eCallB_run0 | exact eCallB_run0 _ | exact eCallB_run0 _ _ | exact eCallB_run0 _ _ _ | exact eCallB_run0 _ _ _ _ | exact eCallB_run0 _ _ _ _ _ | exact eCallB_run0 _ _ _ _ _ _ | exact eCallB_run0 _ _ _ _ _ _ _ | exact eCallB_run0 _ _ _ _ _ _ _ _ | exact eCallB_run0 _ _ _ _ _ _ _ _ _
theorem eOnL_run0 (op) (g : FE (List D)) : eOnL op g ρ ω = (g ρ ω).bind fun ds ω1 => Res.lift (op ds) ω1 := rfl
theorem eOnL_run (op) (g : FE (List D)) : eOnL op g ρ ω = bindL (g ρ ω) (k := ⟨fun ds ω1 => Res.lift (op ds) ω1⟩) := by first | exact eOnL_run0 | exact eOnL_run0 _ | exact eOnL_run0 _ _ | exact eOnL_run0 _ _ _ | exact eOnL_run0 _ _ _ _ | exact eOnL_run0 _ _ _ _ _ | exact eOnL_run0 _ _ _ _ _ _ | exact eOnL_run0 _ _ _ _ _ _ _ | exact eOnL_run0 _ _ _ _ _ _ _ _ | exact eOnL_run0 _ _ _ _ _ _ _ _ _
theorem eIsi_run0 (u) (f : FE D) : eIsi u f ρ ω = (f ρ ω).bind fun d ω1 => Res.lift (isiD u d) ω1 := rfl
theorem eIsi_run (u) (f : FE D) : eIsi u f ρ ω = bindL (f ρ ω) (k := ⟨fun d ω1 => Res.lift (isiD u d) ω1⟩) := by first | exact eIsi_run0 | exact eIsi_run0 _ | exact eIsi_run0 _ _ | exact eIsi_run0 _ _ _ | exact eIsi_run0 _ _ _ _ | exact eIsi_run0 _ _ _ _ _ | exact eIsi_run0 _ _ _ _ _ _ | exact eIsi_run0 _ _ _ _ _ _ _ | exact eIsi_run0 _ _ _ _ _ _ _ _ | exact eIsi_run0 _ _ _ _ _ _ _ _ _
theorem eSl_run0 (f : FE D) (lo hi : FE (Option Int)) : eSl f lo hi ρ ω = (f ρ ω).bind fun d ω1 => (lo ρ ω1).bind fun l ω2 => (hi ρ ω2).bind fun h ω3 => Res.lift (slD l h d) ω3 := rfl
theorem eSl_run (f : FE D) (lo hi : FE (Option Int)) : eSl f lo hi ρ ω = bindL (f ρ ω) (k := ⟨fun d ω1 => bindL (lo ρ ω1) (k := ⟨fun l ω2 => bindL (hi ρ ω2) (k := ⟨fun h ω3 => Res.lift (slD l h d) ω3⟩)⟩)⟩) := by first | exact eSl_run0 | exact eSl_run0 _ | exact eSl_run0 _ _ | exact eSl_run0 _ _ _ | exact eSl_run0 _ _ _ _ | exact eSl_run0 _ _ _ _ _ | exact eSl_run0 _ _ _ _ _ _ | exact eSl_run0 _ _ _ _ _ _ _ | exact eSl_run0 _ _ _ _ _ _ _ _ | exact eSl_run0 _ _ _ _ _ _ _ _ _
theorem ePart_run0 (f : FE D) : ePart f ρ ω = (f ρ ω).bind fun d ω1 => Res.lift (asI d) ω1 := rfl
theorem ePart_run (f : FE D) : ePart f ρ ω = bindL (f ρ ω) (k := ⟨fun d ω1 => Res.lift (asI d) ω1⟩) := by first | exact ePart_run0 | exact ePart_run0 _ | exact ePart_run0 _ _ | exact ePart_run0 _ _ _ | exact ePart_run0 _ _ _ _ | exact ePart_run0 _ _ _ _ _ | exact ePart_run0 _ _ _ _ _ _ | exact ePart_run0 _ _ _ _ _ _ _ | exact ePart_run0 _ _ _ _ _ _ _ _ | exact ePart_run0 _ _ _ _ _ _ _ _ _
theorem asI_run (n : Int) : asI (.int n) = some (some n) := rfl
theorem eNoPart_run : eNoPart ρ ω = .ok none ω := rfl
def chR (o : Option D) (ω : Om) (k : Om → Res D) : Res D := match o with
  | some (.bl true) => k ω
  | some (.bl false) => .ok (.bl false) ω
  | _ => .stuck
def chRL (o : Option D) (ω : Om) [k : KtC] : Res D := chR o ω k.run
theorem eChain_run0 (op op') (f g h : FE D) : eChain op op' f g h ρ ω = (f ρ ω).bind fun x ω1 => (g ρ ω1).bind fun y ω2 => chR (op x y) ω2 fun ω2 => (h ρ ω2).bind fun z ω3 => Res.lift (op' y z) ω3 := by
  unfold eChain chR
  rfl
theorem eChain_run (op op') (f g h : FE D) : eChain op op' f g h ρ ω = bindL (f ρ ω) (k := ⟨fun x ω1 => bindL (g ρ ω1) (k := ⟨fun y ω2 => chRL (op x y) ω2 (k := ⟨fun ω2 => bindL (h ρ ω2) (k := ⟨fun z ω3 => Res.lift (op' y z) ω3⟩)⟩)⟩)⟩) := by first | exact eChain_run0 | exact eChain_run0 _ | exact eChain_run0 _ _ | exact eChain_run0 _ _ _ | exact eChain_run0 _ _ _ _ | exact eChain_run0 _ _ _ _ _ | exact eChain_run0 _ _ _ _ _ _ | exact eChain_run0 _ _ _ _ _ _ _ | exact eChain_run0 _ _ _ _ _ _ _ _ | exact eChain_run0 _ _ _ _ _ _ _ _ _
theorem chR_run (b : Bool) (k : Om → Res D) : @chRL (some (.bl b)) ω ⟨k⟩ = if b = true then k ω else .ok (.bl false) ω := by cases b <;> rfl
def ownKR : Option (Option SV) → Option Nat
  | some (some (.own k)) => some k
  | _ => none
def ownLR : Option (Option OD) → Option (List D)
  | some (some (.lst ds)) => some ds
  | _ => none
theorem ownK_run : ownK ρ i = ownKR ρ[i]? := by unfold ownK ownKR; split <;> simp_all
theorem ownKR_run : ownKR (some (some (.own k))) = some k := rfl
theorem ownL_run : ownL ω k = ownLR ω[k]? := by unfold ownL ownLR; split <;> simp_all
theorem ownLR_run : ownLR (some (some (.lst ds))) = some ds := rfl
def someR {β γ : Type} (o : Option β) (k : β → Res γ) : Res γ := match o with
  | none => .stuck
  | some b => k b
def someO {β : Type} (o : Option β) (k : β → Out) : Out := match o with
  | none => .stuck
  | some b => k b
def someRL {β γ : Type} (o : Option β) [k : KtS β γ] : Res γ := someR o k.run
def someOL {β : Type} (o : Option β) [k : KtT β] : Out := someO o k.run
theorem someR_run (b : β) (k : β → Res γ) : @someRL _ _ (some b) ⟨k⟩ = k b := rfl
theorem someO_run (b : β) (k : β → Out) : @someOL _ (some b) ⟨k⟩ = k b := rfl
theorem eIxO_run0 (g : FE D) : eIxO i g ρ ω = someR (ownK ρ i) fun k => (g ρ ω).bind fun z ω1 => someR (ownL ω1 k) fun ds => Res.lift (ixI ds z) ω1 := by
  unfold eIxO someR
  cases ownK ρ i with
  | none => rfl
  | some k =>
    dsimp only
    congr 1
    funext z ω1
    cases ownL ω1 k <;> rfl
theorem eIxO_run (g : FE D) : eIxO i g ρ ω = someRL (ownK ρ i) (k := ⟨fun k => bindL (g ρ ω) (k := ⟨fun z ω1 => someRL (ownL ω1 k) (k := ⟨fun ds => Res.lift (ixI ds z) ω1⟩)⟩)⟩) := by first | exact eIxO_run0 | exact eIxO_run0 _ | exact eIxO_run0 _ _ | exact eIxO_run0 _ _ _ | exact eIxO_run0 _ _ _ _ | exact eIxO_run0 _ _ _ _ _ | exact eIxO_run0 _ _ _ _ _ _ | exact eIxO_run0 _ _ _ _ _ _ _ | exact eIxO_run0 _ _ _ _ _ _ _ _ | exact eIxO_run0 _ _ _ _ _ _ _ _ _
theorem ixI_run (n : Int) : ixI ds (.int n) = atI ds n := rfl
theorem eOwnL_run0 : eOwnL i ρ ω = someR (ownK ρ i) fun k => someR (ownL ω k) fun ds => .ok ds ω := by
  unfold eOwnL ownK someR ownL
  cases ρ[i]? with
  | none => rfl
  | some o =>
    cases o with
    | none => rfl
    | some x =>
      cases x with
      | val d => rfl
      | exc d => rfl
      | lk d => rfl
      | ans _ _ => rfl
      | own k =>
        dsimp only
        cases ω[k]? with
        | none => rfl
        | some o =>
          cases o with
          | none => rfl
          | some u => cases u <;> rfl
theorem eOwnL_run : eOwnL i ρ ω = someRL (ownK ρ i) (k := ⟨fun k => someRL (ownL ω k) (k := ⟨fun ds => .ok ds ω⟩)⟩) := by first | exact eOwnL_run0 | exact eOwnL_run0 _ | exact eOwnL_run0 _ _ | exact eOwnL_run0 _ _ _ | exact eOwnL_run0 _ _ _ _ | exact eOwnL_run0 _ _ _ _ _ | exact eOwnL_run0 _ _ _ _ _ _ | exact eOwnL_run0 _ _ _ _ _ _ _ | exact eOwnL_run0 _ _ _ _ _ _ _ _ | exact eOwnL_run0 _ _ _ _ _ _ _ _ _
theorem sNext_run : sNext ρ ω = .next ρ ω := rfl
theorem sSeq_run (f g : FS) : sSeq f g ρ ω = obL (f ρ ω) (k := ⟨g⟩) := rfl
theorem sIf_run0 (c : FE Bool) (f g : FS) : sIf c f g ρ ω = (c ρ ω).out ρ fun b ω1 => if b = true then f ρ ω1 else g ρ ω1 := rfl
theorem sIf_run (c : FE Bool) (f g : FS) : sIf c f g ρ ω = outL (c ρ ω) ρ (k := ⟨fun b ω1 => if b = true then f ρ ω1 else g ρ ω1⟩) := by first | exact sIf_run0 | exact sIf_run0 _ | exact sIf_run0 _ _ | exact sIf_run0 _ _ _ | exact sIf_run0 _ _ _ _ | exact sIf_run0 _ _ _ _ _ | exact sIf_run0 _ _ _ _ _ _ | exact sIf_run0 _ _ _ _ _ _ _ | exact sIf_run0 _ _ _ _ _ _ _ _ | exact sIf_run0 _ _ _ _ _ _ _ _ _
theorem sExpr_run0 (f : FE D) : sExpr f ρ ω = (f ρ ω).out ρ fun _ ω1 => .next ρ ω1 := rfl
theorem sExpr_run (f : FE D) : sExpr f ρ ω = outL (f ρ ω) ρ (k := ⟨fun _ ω1 => .next ρ ω1⟩) := by first | exact sExpr_run0 | exact sExpr_run0 _ | exact sExpr_run0 _ _ | exact sExpr_run0 _ _ _ | exact sExpr_run0 _ _ _ _ | exact sExpr_run0 _ _ _ _ _ | exact sExpr_run0 _ _ _ _ _ _ | exact sExpr_run0 _ _ _ _ _ _ _ | exact sExpr_run0 _ _ _ _ _ _ _ _ | exact sExpr_run0 _ _ _ _ _ _ _ _ _
theorem sRet_run0 (f : FE D) : sRet f ρ ω = (f ρ ω).out ρ fun d ω1 => .ret (.val d) ω1 := rfl
theorem sRet_run (f : FE D) : sRet f ρ ω = outL (f ρ ω) ρ (k := ⟨fun d ω1 => .ret (.val d) ω1⟩) := by first | exact sRet_run0 | exact sRet_run0 _ | exact sRet_run0 _ _ | exact sRet_run0 _ _ _ | exact sRet_run0 _ _ _ _ | exact sRet_run0 _ _ _ _ _ | exact sRet_run0 _ _ _ _ _ _ | exact sRet_run0 _ _ _ _ _ _ _ | exact sRet_run0 _ _ _ _ _ _ _ _ | exact sRet_run0 _ _ _ _ _ _ _ _ _
theorem sRetS_run0 (f : FE SV) : sRetS f ρ ω = (f ρ ω).out ρ fun x ω1 => .ret x ω1 := rfl
theorem sRetS_run (f : FE SV) : sRetS f ρ ω = outL (f ρ ω) ρ (k := ⟨fun x ω1 => .ret x ω1⟩) := by first | exact sRetS_run0 | exact sRetS_run0 _ | exact sRetS_run0 _ _ | exact sRetS_run0 _ _ _ | exact sRetS_run0 _ _ _ _ | exact sRetS_run0 _ _ _ _ _ | exact sRetS_run0 _ _ _ _ _ _ | exact sRetS_run0 _ _ _ _ _ _ _ | exact sRetS_run0 _ _ _ _ _ _ _ _ | exact sRetS_run0 _ _ _ _ _ _ _ _ _
theorem sRetN_run : sRetN ρ ω = .ret (.val .non) ω := rfl
theorem sBreak_run : sBreak ρ ω = .brk ρ ω := rfl
theorem sCont_run : sCont ρ ω = .cont ρ ω := rfl
theorem sAsg_run0 (f : FE D) (tg : FG) : sAsg f tg ρ ω = (f ρ ω).out ρ fun d ω1 => someO (tg d ρ) fun ρ' => .next ρ' ω1 := by
  unfold sAsg someO
  congr 1
  funext d ω1
  cases tg d ρ <;> rfl
theorem sAsg_run (f : FE D) (tg : FG) : sAsg f tg ρ ω = outL (f ρ ω) ρ (k := ⟨fun d ω1 => someOL (tg d ρ) (k := ⟨fun ρ' => .next ρ' ω1⟩)⟩) := by first | exact sAsg_run0 | exact sAsg_run0 _ | exact sAsg_run0 _ _ | exact sAsg_run0 _ _ _ | exact sAsg_run0 _ _ _ _ | exact sAsg_run0 _ _ _ _ _ | exact sAsg_run0 _ _ _ _ _ _ | exact sAsg_run0 _ _ _ _ _ _ _ | exact sAsg_run0 _ _ _ _ _ _ _ _ | exact sAsg_run0 _ _ _ _ _ _ _ _ _
theorem sSetS_run0 (f : FE SV) : sSetS i f ρ ω = (f ρ ω).out ρ fun x ω1 => .next (ρ.set i (some x)) ω1 := rfl
theorem sSetS_run (f : FE SV) : sSetS i f ρ ω = outL (f ρ ω) ρ (k := ⟨fun x ω1 => .next (ρ.set i (some x)) ω1⟩) := by first | exact sSetS_run0 | exact sSetS_run0 _ | exact sSetS_run0 _ _ | exact sSetS_run0 _ _ _ | exact sSetS_run0 _ _ _ _ | exact sSetS_run0 _ _ _ _ _ | exact sSetS_run0 _ _ _ _ _ _ | exact sSetS_run0 _ _ _ _ _ _ _ | exact sSetS_run0 _ _ _ _ _ _ _ _ | exact sSetS_run0 _ _ _ _ _ _ _ _ _
def parR (i j : Nat) (ρ : Rho) (ω : Om) : List SV → Out
  | [x, y] => .next ((ρ.set i (some x)).set j (some y)) ω
  | _ => .stuck
theorem sPar_run0 (f : FE (List SV)) : sPar i j f ρ ω = (f ρ ω).out ρ fun xs ω1 => parR i j ρ ω1 xs := by
  unfold sPar parR; rfl
theorem sPar_run (f : FE (List SV)) : sPar i j f ρ ω = outL (f ρ ω) ρ (k := ⟨fun xs ω1 => parR i j ρ ω1 xs⟩) := by first | exact sPar_run0 | exact sPar_run0 _ | exact sPar_run0 _ _ | exact sPar_run0 _ _ _ | exact sPar_run0 _ _ _ _ | exact sPar_run0 _ _ _ _ _ | exact sPar_run0 _ _ _ _ _ _ | exact sPar_run0 _ _ _ _ _ _ _ | exact sPar_run0 _ _ _ _ _ _ _ _ | exact sPar_run0 _ _ _ _ _ _ _ _ _
theorem parR_run (x y : SV) : parR i j ρ ω [x, y] = .next ((ρ.set i (some x)).set j (some y)) ω := rfl
theorem gN_run : gN i d ρ = some (ρ.set i (some (.val d))) := rfl
theorem gT_run {n : Nat} {g} (h : ds.length = n) : gT n g (.tup ds) ρ = g ds ρ := by unfold gT; dsimp only; rw [if_pos h]
theorem gsNil_run : gsNil [] ρ = some ρ := rfl
theorem gsCons_run (f : FG) (g) : gsCons f g (d :: ds) ρ = (f d ρ).bind fun ρ1 => g ds ρ1 := rfl
theorem sFor_run0 (it : FE (List D)) (tg : FG) (b : FS) : sFor it tg b ρ ω = (it ρ ω).out ρ fun ds ω1 => forL tg b ds ρ ω1 := rfl
theorem sFor_run (it : FE (List D)) (tg : FG) (b : FS) : sFor it tg b ρ ω = outL (it ρ ω) ρ (k := ⟨fun ds ω1 => forL tg b ds ρ ω1⟩) := by first | exact sFor_run0 | exact sFor_run0 _ | exact sFor_run0 _ _ | exact sFor_run0 _ _ _ | exact sFor_run0 _ _ _ _ | exact sFor_run0 _ _ _ _ _ | exact sFor_run0 _ _ _ _ _ _ | exact sFor_run0 _ _ _ _ _ _ _ | exact sFor_run0 _ _ _ _ _ _ _ _ | exact sFor_run0 _ _ _ _ _ _ _ _ _
theorem sWhile_run (n) (c : FE Bool) (b : FS) : sWhile n c b ρ ω = whileF c b n ρ ω := rfl
theorem eIt1_run0 (o) (f : FE D) : eIt1 o f ρ ω = (f ρ ω).bind fun d ω1 => Res.lift (o d) ω1 := rfl
theorem eIt1_run (o) (f : FE D) : eIt1 o f ρ ω = bindL (f ρ ω) (k := ⟨fun d ω1 => Res.lift (o d) ω1⟩) := by first | exact eIt1_run0 | exact eIt1_run0 _ | exact eIt1_run0 _ _ | exact eIt1_run0 _ _ _ | exact eIt1_run0 _ _ _ _ | exact eIt1_run0 _ _ _ _ _ | exact eIt1_run0 _ _ _ _ _ _ | exact eIt1_run0 _ _ _ _ _ _ _ | exact eIt1_run0 _ _ _ _ _ _ _ _ | exact eIt1_run0 _ _ _ _ _ _ _ _ _
theorem eIt2_run0 (o) (f g : FE D) : eIt2 o f g ρ ω = (f ρ ω).bind fun d ω1 => (g ρ ω1).bind fun e ω2 => Res.lift (o d e) ω2 := rfl
theorem eIt2_run (o) (f g : FE D) : eIt2 o f g ρ ω = bindL (f ρ ω) (k := ⟨fun d ω1 => bindL (g ρ ω1) (k := ⟨fun e ω2 => Res.lift (o d e) ω2⟩)⟩) := by first | exact eIt2_run0 | exact eIt2_run0 _ | exact eIt2_run0 _ _ | exact eIt2_run0 _ _ _ | exact eIt2_run0 _ _ _ _ | exact eIt2_run0 _ _ _ _ _ | exact eIt2_run0 _ _ _ _ _ _ | exact eIt2_run0 _ _ _ _ _ _ _ | exact eIt2_run0 _ _ _ _ _ _ _ _ | exact eIt2_run0 _ _ _ _ _ _ _ _ _
theorem eIt3_run0 (o) (f g h : FE D) : eIt3 o f g h ρ ω = (f ρ ω).bind fun d ω1 => (g ρ ω1).bind fun e ω2 => (h ρ ω2).bind fun k ω3 => Res.lift (o d e k) ω3 := rfl
theorem eIt3_run (o) (f g h : FE D) : eIt3 o f g h ρ ω = bindL (f ρ ω) (k := ⟨fun d ω1 => bindL (g ρ ω1) (k := ⟨fun e ω2 => bindL (h ρ ω2) (k := ⟨fun k ω3 => Res.lift (o d e k) ω3⟩)⟩)⟩) := by first | exact eIt3_run0 | exact eIt3_run0 _ | exact eIt3_run0 _ _ | exact eIt3_run0 _ _ _ | exact eIt3_run0 _ _ _ _ | exact eIt3_run0 _ _ _ _ _ | exact eIt3_run0 _ _ _ _ _ _ | exact eIt3_run0 _ _ _ _ _ _ _ | exact eIt3_run0 _ _ _ _ _ _ _ _ | exact eIt3_run0 _ _ _ _ _ _ _ _ _
theorem itSeq_lst : itSeq (.lst ds) = some ds := rfl
theorem itSeq_tup : itSeq (.tup ds) = some ds := rfl
theorem itEn_lst : itEn (.lst ds) = some (enumD ds) := rfl
theorem itEn_tup : itEn (.tup ds) = some (enumD ds) := rfl
theorem itZ_lst : itZ (.lst ds) (.lst es) = some (zipD ds es) := rfl
theorem itZ_tup : itZ (.tup ds) (.tup es) = some (zipD ds es) := rfl
theorem eLc_run0 (vs) (it : FE (List D)) (tg) (tt) (el : FE D) : eLc vs it tg tt el ρ ω = (it ρ ω).bind fun ds ω1 => lcL tg tt el (wipeR ρ vs) ds [] ω1 := rfl
theorem eLc_run (vs) (it : FE (List D)) (tg) (tt) (el : FE D) : eLc vs it tg tt el ρ ω = bindL (it ρ ω) (k := ⟨fun ds ω1 => lcL tg tt el (wipeR ρ vs) ds [] ω1⟩) := by first | exact eLc_run0 | exact eLc_run0 _ | exact eLc_run0 _ _ | exact eLc_run0 _ _ _ | exact eLc_run0 _ _ _ _ | exact eLc_run0 _ _ _ _ _ | exact eLc_run0 _ _ _ _ _ _ | exact eLc_run0 _ _ _ _ _ _ _ | exact eLc_run0 _ _ _ _ _ _ _ _ | exact eLc_run0 _ _ _ _ _ _ _ _ _
theorem eLc2_run0 (vs vs1) (it : FE (List D)) (tg tt) (it1 : FE (List D)) (tg1 tt1) (el : FE D) : eLc2 vs vs1 it tg tt it1 tg1 tt1 el ρ ω = (it ρ ω).bind fun ds ω1 => lc2L tg tt it1 tg1 tt1 el vs1 (wipeR ρ vs) ds [] ω1 := rfl
theorem eLc2_run (vs vs1) (it : FE (List D)) (tg tt) (it1 : FE (List D)) (tg1 tt1) (el : FE D) : eLc2 vs vs1 it tg tt it1 tg1 tt1 el ρ ω = bindL (it ρ ω) (k := ⟨fun ds ω1 => lc2L tg tt it1 tg1 tt1 el vs1 (wipeR ρ vs) ds [] ω1⟩) := by first | exact eLc2_run0 | exact eLc2_run0 _ | exact eLc2_run0 _ _ | exact eLc2_run0 _ _ _ | exact eLc2_run0 _ _ _ _ | exact eLc2_run0 _ _ _ _ _ | exact eLc2_run0 _ _ _ _ _ _ | exact eLc2_run0 _ _ _ _ _ _ _ | exact eLc2_run0 _ _ _ _ _ _ _ _ | exact eLc2_run0 _ _ _ _ _ _ _ _ _
theorem wipeR_nil : wipeR ρ [] = ρ := rfl
theorem wipeR_cons (v : Nat) (vs : List Nat) : wipeR ρ (v :: vs) = (wipeR ρ vs).set v none := rfl
def newR (o : Option (List D)) (n i : Nat) (ρ : Rho) (ω : Om) : Out := match o with
  | some ds => if n ≤ lim then .next (ρ.set i (some (.own ω.length))) (ω ++ [some (.lst ds)]) else .stuck
  | none => .stuck
theorem sNewL_run0 (g : FE (List SV)) : sNewL i g ρ ω = (g ρ ω).out ρ fun xs ω1 => newR (allD xs) xs.length i ρ ω1 := by
  unfold sNewL newR; rfl
theorem sNewL_run (g : FE (List SV)) : sNewL i g ρ ω = outL (g ρ ω) ρ (k := ⟨fun xs ω1 => newR (allD xs) xs.length i ρ ω1⟩) := by first | exact sNewL_run0 | exact sNewL_run0 _ | exact sNewL_run0 _ _ | exact sNewL_run0 _ _ _ | exact sNewL_run0 _ _ _ _ | exact sNewL_run0 _ _ _ _ _ | exact sNewL_run0 _ _ _ _ _ _ | exact sNewL_run0 _ _ _ _ _ _ _ | exact sNewL_run0 _ _ _ _ _ _ _ _ | exact sNewL_run0 _ _ _ _ _ _ _ _ _
theorem newR_run {n : Nat} (h : n ≤ lim) : newR (some ds) n i ρ ω = .next (ρ.set i (some (.own ω.length))) (ω ++ [some (.lst ds)]) := by unfold newR; dsimp only; rw [if_pos h]
theorem sApp_run0 (f : FE D) : sApp i f ρ ω = someO (ownK ρ i) fun k => someO (ownL ω k) fun _ => (f ρ ω).out ρ fun d ω1 => someO (ownL ω1 k) fun ds => if ds.length < lim then .next ρ (ω1.set k (some (.lst (ds ++ [d])))) else .stuck := by
  unfold sApp someO
  cases ownK ρ i with
  | none => rfl
  | some k =>
    dsimp only
    cases ownL ω k with
    | none => rfl
    | some _ =>
      dsimp only
      congr 1
      funext d ω1
      cases ownL ω1 k <;> rfl
theorem sApp_run (f : FE D) : sApp i f ρ ω = someOL (ownK ρ i) (k := ⟨fun k => someOL (ownL ω k) (k := ⟨fun _ => outL (f ρ ω) ρ (k := ⟨fun d ω1 => someOL (ownL ω1 k) (k := ⟨fun ds => if ds.length < lim then .next ρ (ω1.set k (some (.lst (ds ++ [d])))) else .stuck⟩)⟩)⟩)⟩) := by first | exact sApp_run0 | exact sApp_run0 _ | exact sApp_run0 _ _ | exact sApp_run0 _ _ _ | exact sApp_run0 _ _ _ _ | exact sApp_run0 _ _ _ _ _ | exact sApp_run0 _ _ _ _ _ _ | exact sApp_run0 _ _ _ _ _ _ _ | exact sApp_run0 _ _ _ _ _ _ _ _ | exact sApp_run0 _ _ _ _ _ _ _ _ _
def setIxR (ds : List D) (d : D) (k : Nat) (ρ : Rho) (ω : Om) : D → Out
  | .int n => someO (ixN ds.length n) fun j => .next ρ (ω.set k (some (.lst (ds.set j d))))
  | _ => .stuck
theorem sSetIx_run0 (fi fe : FE D) : sSetIx i fi fe ρ ω = (fe ρ ω).out ρ fun d ω1 => someO (ownK ρ i) fun k => (fi ρ ω1).out ρ fun z ω2 => someO (ownL ω2 k) fun ds => setIxR ds d k ρ ω2 z := by
  unfold sSetIx someO setIxR
  congr 1
  funext d ω1
  cases ownK ρ i with
  | none => rfl
  | some k =>
    dsimp only
    congr 1
    funext z ω2
    cases z <;> cases ownL ω2 k <;> try rfl
    dsimp only [someO]
    split <;> simp_all
theorem sSetIx_run (fi fe : FE D) : sSetIx i fi fe ρ ω = outL (fe ρ ω) ρ (k := ⟨fun d ω1 => someOL (ownK ρ i) (k := ⟨fun k => outL (fi ρ ω1) ρ (k := ⟨fun z ω2 => someOL (ownL ω2 k) (k := ⟨fun ds => setIxR ds d k ρ ω2 z⟩)⟩)⟩)⟩) := by first | exact sSetIx_run0 | exact sSetIx_run0 _ | exact sSetIx_run0 _ _ | exact sSetIx_run0 _ _ _ | exact sSetIx_run0 _ _ _ _ | exact sSetIx_run0 _ _ _ _ _ | exact sSetIx_run0 _ _ _ _ _ _ | exact sSetIx_run0 _ _ _ _ _ _ _ | exact sSetIx_run0 _ _ _ _ _ _ _ _ | exact sSetIx_run0 _ _ _ _ _ _ _ _ _
theorem setIxR_run0 (n : Int) : setIxR ds d k ρ ω (.int n) = someO (ixN ds.length n) fun j => .next ρ (ω.set k (some (.lst (ds.set j d)))) := rfl
theorem setIxR_run (n : Int) : setIxR ds d k ρ ω (.int n) = someOL (ixN ds.length n) (k := ⟨fun j => .next ρ (ω.set k (some (.lst (ds.set j d))))⟩) := by first | exact setIxR_run0 | exact setIxR_run0 _ | exact setIxR_run0 _ _ | exact setIxR_run0 _ _ _ | exact setIxR_run0 _ _ _ _ | exact setIxR_run0 _ _ _ _ _ | exact setIxR_run0 _ _ _ _ _ _ | exact setIxR_run0 _ _ _ _ _ _ _ | exact setIxR_run0 _ _ _ _ _ _ _ _ | exact setIxR_run0 _ _ _ _ _ _ _ _ _
theorem sRetL_run0 : sRetL i ρ ω = someO (ownK ρ i) fun k => someO (ownL ω k) fun ds => .ret (.val (.lst ds)) (ω.set k none) := by
  unfold sRetL someO
  cases ownK ρ i with
  | none => rfl
  | some k =>
    dsimp only
    cases ownL ω k <;> rfl
theorem sRetL_run : sRetL i ρ ω = someOL (ownK ρ i) (k := ⟨fun k => someOL (ownL ω k) (k := ⟨fun ds => .ret (.val (.lst ds)) (ω.set k none)⟩)⟩) := by first | exact sRetL_run0 | exact sRetL_run0 _ | exact sRetL_run0 _ _ | exact sRetL_run0 _ _ _ | exact sRetL_run0 _ _ _ _ | exact sRetL_run0 _ _ _ _ _ | exact sRetL_run0 _ _ _ _ _ _ | exact sRetL_run0 _ _ _ _ _ _ _ | exact sRetL_run0 _ _ _ _ _ _ _ _ | exact sRetL_run0 _ _ _ _ _ _ _ _ _
def retNewR (o : Option (List D)) (n : Nat) (ω : Om) : Out := match o with
  | some ds => if n ≤ lim then .ret (.own ω.length) (ω ++ [some (.lst ds)]) else .stuck
  | none => .stuck
theorem sRetNew_run0 (g : FE (List SV)) : sRetNew g ρ ω = (g ρ ω).out ρ fun xs ω1 => retNewR (allD xs) xs.length ω1 := by
  unfold sRetNew retNewR; rfl
theorem sRetNew_run (g : FE (List SV)) : sRetNew g ρ ω = outL (g ρ ω) ρ (k := ⟨fun xs ω1 => retNewR (allD xs) xs.length ω1⟩) := by first | exact sRetNew_run0 | exact sRetNew_run0 _ | exact sRetNew_run0 _ _ | exact sRetNew_run0 _ _ _ | exact sRetNew_run0 _ _ _ _ | exact sRetNew_run0 _ _ _ _ _ | exact sRetNew_run0 _ _ _ _ _ _ | exact sRetNew_run0 _ _ _ _ _ _ _ | exact sRetNew_run0 _ _ _ _ _ _ _ _ | exact sRetNew_run0 _ _ _ _ _ _ _ _ _
theorem retNewR_run {n : Nat} (h : n ≤ lim) : retNewR (some ds) n ω = .ret (.own ω.length) (ω ++ [some (.lst ds)]) := by unfold retNewR; dsimp only; rw [if_pos h]
def finP : Out → Option (Except Exn D)
  | .ret (.val d) _ => some (.ok d)
  | .next _ _ => some (.ok .non)
  | .exc x _ _ => some (.error x)
  | _ => none
theorem fnP_run {n m : Nat} {fb : FS} (h : ds.length = n) : fnP n m fb ds = finP (fb (rho0 m (ds.map SV.val)) []) := by
  unfold fnP finP; rw [if_pos h]
  all_goals
    cases fb (rho0 m (ds.map SV.val)) [] with
    | ret x _ => cases x <;> rfl
    | _ => rfl
theorem finP_ret : finP (.ret (.val d) ω) = some (.ok d) := rfl
theorem finP_next : finP (.next ρ ω) = some (.ok .non) := rfl
theorem finP_exc (x : Exn) : finP (.exc x ρ ω) = some (.error x) := rfl
def finE (n : Nat) : Out → Res SV
  | .ret (.val d) ω' => .ok (.val d) (ω'.take n)
  | .ret (.exc z) ω' => .ok (.exc z) (ω'.take n)
  | .ret (.ans ks o) ω' => .ok (.ans ks o) ω'
  | .ret (.own k) ω' => if k < n then .ok (.own k) (ω'.take n) else if k = n then .ok (.own k) (ω'.take (n + 1)) else .stuck
  | .next _ ω' => .ok (.val .non) (ω'.take n)
  | .exc x _ ω' => .exc x (ω'.take n)
  | _ => .stuck
theorem fnE_run {n m : Nat} {fb : FS} {xs : List SV} (h : xs.length = n) : fnE n m fb xs ω = finE ω.length (fb (rho0 m xs) ω) := by
  unfold fnE finE; rw [if_pos h]
  all_goals
    cases fb (rho0 m xs) ω with
    | ret x _ => cases x <;> rfl
    | _ => rfl
theorem finE_ret {n : Nat} : finE n (.ret (.val d) ω) = .ok (.val d) (ω.take n) := rfl
theorem finE_next {n : Nat} : finE n (.next ρ ω) = .ok (.val .non) (ω.take n) := rfl
theorem finE_exc {n : Nat} (x : Exn) : finE n (.exc x ρ ω) = .exc x (ω.take n) := rfl
def callR (r : Option (Except Exn D)) (ω : Om) : Res D := match r with
  | none => .stuck
  | some (.ok d) => .ok d ω
  | some (.error x) => .exc x ω
theorem eCallP_run0 (F : FnP) (g : FE (List SV)) : eCallP F g ρ ω = (g ρ ω).bind fun xs ω1 => callR ((allD xs).bind F) ω1 := by
  unfold eCallP callR
  congr 1
  funext xs ω1
  cases allD xs with
  | none => rfl
  | some ds =>
    dsimp only [Option.bind]
    all_goals
      cases F ds with
      | none => rfl
      | some y => cases y <;> rfl
theorem eCallP_run (F : FnP) (g : FE (List SV)) : eCallP F g ρ ω = bindL (g ρ ω) (k := ⟨fun xs ω1 => callR ((allD xs).bind F) ω1⟩) := by first | exact eCallP_run0 | exact eCallP_run0 _ | exact eCallP_run0 _ _ | exact eCallP_run0 _ _ _ | exact eCallP_run0 _ _ _ _ | exact eCallP_run0 _ _ _ _ _ | exact eCallP_run0 _ _ _ _ _ _ | exact eCallP_run0 _ _ _ _ _ _ _ | exact eCallP_run0 _ _ _ _ _ _ _ _ | exact eCallP_run0 _ _ _ _ _ _ _ _ _
theorem callR_ok : callR (some (.ok d)) ω = .ok d ω := rfl
theorem callR_err (x : Exn) : callR (some (.error x)) ω = .exc x ω := rfl
theorem eCallE_run0 (F : Fn) (g : FE (List SV)) : eCallE F g ρ ω = (g ρ ω).bind F := rfl
theorem eCallE_run (F : Fn) (g : FE (List SV)) : eCallE F g ρ ω = bindL (g ρ ω) (k := ⟨F⟩) := by first | exact eCallE_run0 | exact eCallE_run0 _ | exact eCallE_run0 _ _ | exact eCallE_run0 _ _ _ | exact eCallE_run0 _ _ _ _ | exact eCallE_run0 _ _ _ _ _ | exact eCallE_run0 _ _ _ _ _ _ | exact eCallE_run0 _ _ _ _ _ _ _ | exact eCallE_run0 _ _ _ _ _ _ _ _ | exact eCallE_run0 _ _ _ _ _ _ _ _ _
def valR (x : SV) (ω : Om) : Res D := match x with
  | .val d => .ok d ω
  | .own _ => .stuck
  | .exc _ => .stuck
  | .lk _ => .stuck
  | .ans _ _ => .stuck
theorem eVal_run0 (f : FE SV) : eVal f ρ ω = (f ρ ω).bind valR := rfl
theorem eVal_run (f : FE SV) : eVal f ρ ω = bindL (f ρ ω) (k := ⟨valR⟩) := by first | exact eVal_run0 | exact eVal_run0 _ | exact eVal_run0 _ _ | exact eVal_run0 _ _ _ | exact eVal_run0 _ _ _ _ | exact eVal_run0 _ _ _ _ _ | exact eVal_run0 _ _ _ _ _ _ | exact eVal_run0 _ _ _ _ _ _ _ | exact eVal_run0 _ _ _ _ _ _ _ _ | exact eVal_run0 _ _ _ _ _ _ _ _ _
theorem valR_run : valR (.val d) ω = .ok d ω := rfl
def makeR (r : Res SV) (ω : Om) : Res D := match r with
  | .ok (.val .non) [some (.ins c' fs)] => .ok (.obj c' fs) ω
  | .exc x _ => .exc x ω
  | _ => .stuck
theorem eMake_run0 (c : Str) (F : Fn) (g : FE (List SV)) : eMake c F g ρ ω = (g ρ ω).bind fun xs ω1 => someR (allD xs) fun ds => makeR (F (.own 0 :: ds.map SV.val) [some (.ins c [])]) ω1 := by
  unfold eMake someR makeR
  congr 1
  funext xs ω1
  cases allD xs <;> rfl
theorem eMake_run (c : Str) (F : Fn) (g : FE (List SV)) : eMake c F g ρ ω = bindL (g ρ ω) (k := ⟨fun xs ω1 => someRL (allD xs) (k := ⟨fun ds => makeR (F (.own 0 :: ds.map SV.val) [some (.ins c [])]) ω1⟩)⟩) := by first | exact eMake_run0 | exact eMake_run0 _ | exact eMake_run0 _ _ | exact eMake_run0 _ _ _ | exact eMake_run0 _ _ _ _ | exact eMake_run0 _ _ _ _ _ | exact eMake_run0 _ _ _ _ _ _ | exact eMake_run0 _ _ _ _ _ _ _ | exact eMake_run0 _ _ _ _ _ _ _ _ | exact eMake_run0 _ _ _ _ _ _ _ _ _
theorem makeR_ok {c : Str} {fs : List (Str × D)} : makeR (.ok (.val .non) [some (.ins c fs)]) ω = .ok (.obj c fs) ω := rfl
theorem makeR_exc (x : Exn) (ω' : Om) : makeR (.exc x ω') ω = .exc x ω := rfl
theorem eFld_run0 (c f : Str) (fe : FE D) : eFld c f fe ρ ω = (fe ρ ω).bind fun d ω1 => Res.lift (fldD c f d) ω1 := rfl
theorem eFld_run (c f : Str) (fe : FE D) : eFld c f fe ρ ω = bindL (fe ρ ω) (k := ⟨fun d ω1 => Res.lift (fldD c f d) ω1⟩) := by first | exact eFld_run0 | exact eFld_run0 _ | exact eFld_run0 _ _ | exact eFld_run0 _ _ _ | exact eFld_run0 _ _ _ _ | exact eFld_run0 _ _ _ _ _ | exact eFld_run0 _ _ _ _ _ _ | exact eFld_run0 _ _ _ _ _ _ _ | exact eFld_run0 _ _ _ _ _ _ _ _ | exact eFld_run0 _ _ _ _ _ _ _ _ _
theorem opAdd_int (i j : Int) : opAdd (.int i) (.int j) = some (.int (i + j)) := rfl
theorem opAdd_tup (h : ds.length + es.length ≤ lim) : opAdd (.tup ds) (.tup es) = some (.tup (ds ++ es)) := by simp only [opAdd]; rw [if_pos h]
theorem opI_run (p) (i j : Int) : opI p (.int i) (.int j) = (p i j).map D.int := rfl
theorem opB_run (p) (i j : Int) : opB p (.int i) (.int j) = some (.bl (p i j)) := rfl
theorem opMulA_int (i j : Int) : opMulA (.int i) (.int j) = opMul (.int i) (.int j) := rfl
theorem opEq_run : opEq x y = (eqD x y).map D.bl := rfl
theorem opNe_run : opNe x y = (eqD x y).map fun b => D.bl (!b) := rfl
theorem opIsN_run : opIsN x .non = some (.bl (isNon x)) := rfl
theorem opNotN_run : opNotN x .non = some (.bl (!isNon x)) := rfl
theorem opIx_tup (i : Int) : opIx (.tup ds) (.int i) = atI ds i := rfl
theorem opIx_lst (i : Int) : opIx (.lst ds) (.int i) = atI ds i := rfl
theorem opNeg_run (i : Int) : opNeg (.int i) = some (.int (-i)) := rfl
theorem oLen_tup : oLen [.tup ds] = some (.int ds.length) := rfl
theorem oLen_lst : oLen [.lst ds] = some (.int ds.length) := rfl
theorem oInt_int (i : Int) : oInt [.int i] = some (.int i) := rfl
theorem oInt_bl (b : Bool) : oInt [.bl b] = some (.int (if b then 1 else 0)) := rfl
theorem oTuple_tup : oTuple [.tup ds] = some (.tup ds) := rfl
theorem oTuple_lst : oTuple [.lst ds] = some (.tup ds) := rfl
theorem oList_tup : oList [.tup ds] = some (.lst ds) := rfl
theorem oList_lst : oList [.lst ds] = some (.lst ds) := rfl
theorem oTupleL_run : oTupleL ds = some (.tup ds) := rfl
theorem oListL_run : oListL ds = some (.lst ds) := rfl
theorem oLenL_run : oLenL ds = some (.int ds.length) := rfl
theorem atI_get' {α : Type} {xs : List α} {i : Int} (h0 : 0 ≤ i) : atI xs i = xs[i.toNat]? := by
  unfold atI ixN
  rw [if_pos h0]
  split
  · rfl
  · rw [List.getElem?_eq_none (by omega)]; rfl
end
section
variable {α : Type}
theorem atI_0 (x0 : α) (xs : List α) : atI (x0 :: xs) 0 = some x0 := by rw [atI_get' (by omega)]; rfl
theorem atI_1 (x0 x1 : α) (xs : List α) : atI (x0 :: x1 :: xs) 1 = some x1 := by rw [atI_get' (by omega)]; rfl
theorem atI_2 (x0 x1 x2 : α) (xs : List α) : atI (x0 :: x1 :: x2 :: xs) 2 = some x2 := by rw [atI_get' (by omega)]; rfl
theorem atI_3 (x0 x1 x2 x3 : α) (xs : List α) : atI (x0 :: x1 :: x2 :: x3 :: xs) 3 = some x3 := by rw [atI_get' (by omega)]; rfl
theorem atI_4 (x0 x1 x2 x3 x4 : α) (xs : List α) : atI (x0 :: x1 :: x2 :: x3 :: x4 :: xs) 4 = some x4 := by rw [atI_get' (by omega)]; rfl
theorem atI_5 (x0 x1 x2 x3 x4 x5 : α) (xs : List α) : atI (x0 :: x1 :: x2 :: x3 :: x4 :: x5 :: xs) 5 = some x5 := by rw [atI_get' (by omega)]; rfl
theorem atI_6 (x0 x1 x2 x3 x4 x5 x6 : α) (xs : List α) : atI (x0 :: x1 :: x2 :: x3 :: x4 :: x5 :: x6 :: xs) 6 = some x6 := by rw [atI_get' (by omega)]; rfl
theorem atI_7 (x0 x1 x2 x3 x4 x5 x6 x7 : α) (xs : List α) : atI (x0 :: x1 :: x2 :: x3 :: x4 :: x5 :: x6 :: x7 :: xs) 7 = some x7 := by rw [atI_get' (by omega)]; rfl
theorem atI_8 (x0 x1 x2 x3 x4 x5 x6 x7 x8 : α) (xs : List α) : atI (x0 :: x1 :: x2 :: x3 :: x4 :: x5 :: x6 :: x7 :: x8 :: xs) 8 = some x8 := by rw [atI_get' (by omega)]; rfl
theorem ixN_1_0 : ixN 1 0 = some 0 := rfl
theorem ixN_2_0 : ixN 2 0 = some 0 := rfl
theorem ixN_2_1 : ixN 2 1 = some 1 := rfl
theorem ixN_3_0 : ixN 3 0 = some 0 := rfl
theorem ixN_3_1 : ixN 3 1 = some 1 := rfl
theorem ixN_3_2 : ixN 3 2 = some 2 := rfl
theorem ixN_4_0 : ixN 4 0 = some 0 := rfl
theorem ixN_4_1 : ixN 4 1 = some 1 := rfl
theorem ixN_4_2 : ixN 4 2 = some 2 := rfl
theorem ixN_4_3 : ixN 4 3 = some 3 := rfl
theorem ixN_5_0 : ixN 5 0 = some 0 := rfl
theorem ixN_5_1 : ixN 5 1 = some 1 := rfl
theorem ixN_5_2 : ixN 5 2 = some 2 := rfl
theorem ixN_5_3 : ixN 5 3 = some 3 := rfl
theorem ixN_5_4 : ixN 5 4 = some 4 := rfl
end
theorem isi_int_non  : isiD "int" .non = some (.bl false) := by simp [isiD, tyD, isTy]
theorem isi_int_bl (b : Bool) : isiD "int" (.bl b) = some (.bl true) := by simp [isiD, tyD, isTy]
theorem isi_int_int (i : Int) : isiD "int" (.int i) = some (.bl true) := by simp [isiD, tyD, isTy]
theorem isi_int_str (x : Str) : isiD "int" (.str x) = some (.bl false) := by simp [isiD, tyD, isTy]
theorem isi_int_tup (ds : List D) : isiD "int" (.tup ds) = some (.bl false) := by simp [isiD, tyD, isTy]
theorem isi_int_lst (ds : List D) : isiD "int" (.lst ds) = some (.bl false) := by simp [isiD, tyD, isTy]
theorem isi_bool_non  : isiD "bool" .non = some (.bl false) := by simp [isiD, tyD, isTy]
theorem isi_bool_bl (b : Bool) : isiD "bool" (.bl b) = some (.bl true) := by simp [isiD, tyD, isTy]
theorem isi_bool_int (i : Int) : isiD "bool" (.int i) = some (.bl false) := by simp [isiD, tyD, isTy]
theorem isi_bool_str (x : Str) : isiD "bool" (.str x) = some (.bl false) := by simp [isiD, tyD, isTy]
theorem isi_bool_tup (ds : List D) : isiD "bool" (.tup ds) = some (.bl false) := by simp [isiD, tyD, isTy]
theorem isi_bool_lst (ds : List D) : isiD "bool" (.lst ds) = some (.bl false) := by simp [isiD, tyD, isTy]
theorem isi_tuple_non  : isiD "tuple" .non = some (.bl false) := by simp [isiD, tyD, isTy]
theorem isi_tuple_bl (b : Bool) : isiD "tuple" (.bl b) = some (.bl false) := by simp [isiD, tyD, isTy]
theorem isi_tuple_int (i : Int) : isiD "tuple" (.int i) = some (.bl false) := by simp [isiD, tyD, isTy]
theorem isi_tuple_str (x : Str) : isiD "tuple" (.str x) = some (.bl false) := by simp [isiD, tyD, isTy]
theorem isi_tuple_tup (ds : List D) : isiD "tuple" (.tup ds) = some (.bl true) := by simp [isiD, tyD, isTy]
theorem isi_tuple_lst (ds : List D) : isiD "tuple" (.lst ds) = some (.bl false) := by simp [isiD, tyD, isTy]
theorem isi_str_non  : isiD "str" .non = some (.bl false) := by simp [isiD, tyD, isTy]
theorem isi_str_bl (b : Bool) : isiD "str" (.bl b) = some (.bl false) := by simp [isiD, tyD, isTy]
theorem isi_str_int (i : Int) : isiD "str" (.int i) = some (.bl false) := by simp [isiD, tyD, isTy]
theorem isi_str_str (x : Str) : isiD "str" (.str x) = some (.bl true) := by simp [isiD, tyD, isTy]
theorem isi_str_tup (ds : List D) : isiD "str" (.tup ds) = some (.bl false) := by simp [isiD, tyD, isTy]
theorem isi_str_lst (ds : List D) : isiD "str" (.lst ds) = some (.bl false) := by simp [isiD, tyD, isTy]
theorem isi_list_non  : isiD "list" .non = some (.bl false) := by simp [isiD, tyD, isTy]
theorem isi_list_bl (b : Bool) : isiD "list" (.bl b) = some (.bl false) := by simp [isiD, tyD, isTy]
theorem isi_list_int (i : Int) : isiD "list" (.int i) = some (.bl false) := by simp [isiD, tyD, isTy]
theorem isi_list_str (x : Str) : isiD "list" (.str x) = some (.bl false) := by simp [isiD, tyD, isTy]
theorem isi_list_tup (ds : List D) : isiD "list" (.tup ds) = some (.bl false) := by simp [isiD, tyD, isTy]
theorem isi_list_lst (ds : List D) : isiD "list" (.lst ds) = some (.bl true) := by simp [isiD, tyD, isTy]
theorem isNon_non  : isNon .non = true := rfl
theorem isNon_bl (b : Bool) : isNon (.bl b) = false := rfl
theorem isNon_int (i : Int) : isNon (.int i) = false := rfl
theorem isNon_str (x : Str) : isNon (.str x) = false := rfl
theorem isNon_tup (ds : List D) : isNon (.tup ds) = false := rfl
theorem isNon_lst (ds : List D) : isNon (.lst ds) = false := rfl
theorem forL_rule {tg : FG} {b : FS} {ds : List D} {ρ : Rho} {ω : Om} (P : Nat → Rho → Om → Prop) (R : Out → Prop) (h0 : P 0 ρ ω)
    (hs : ∀ i d ρ ω, ds[i]? = some d → P i ρ ω → ∃ ρ1, tg d ρ = some ρ1 ∧ (match b ρ1 ω with
      | .next ρ2 ω2 => P (i + 1) ρ2 ω2
      | .cont ρ2 ω2 => P (i + 1) ρ2 ω2
      | .brk ρ2 ω2 => R (.next ρ2 ω2)
      | .ret x ω2 => R (.ret x ω2)
      | .exc x ρ2 ω2 => R (.exc x ρ2 ω2)
      | .stuck => False))
    (hd : ∀ ρ ω, P ds.length ρ ω → R (.next ρ ω)) : R (forL tg b ds ρ ω) := by
  suffices H : ∀ (n i : Nat) (ρ : Rho) (ω : Om), n = ds.length - i → i ≤ ds.length → P i ρ ω → R (forL tg b (ds.drop i) ρ ω) from H _ 0 ρ ω rfl (Nat.zero_le _) h0
  intro n
  induction n with
  | zero =>
    intro i ρ ω hn hi p
    have : i = ds.length := by omega
    subst this
    rw [List.drop_length]
    exact hd ρ ω p
  | succ n ih =>
    intro i ρ ω hn hi p
    have hlt : i < ds.length := by omega
    rw [List.drop_eq_getElem_cons hlt]
    obtain ⟨ρ1, e1, h⟩ := hs i ds[i] ρ ω (List.getElem?_eq_getElem hlt) p
    unfold forL
    rw [e1]
    dsimp only
    cases q : b ρ1 ω with
    | next ρ2 ω2 => rw [q] at h; exact ih (i + 1) ρ2 ω2 (by omega) hlt h
    | cont ρ2 ω2 => rw [q] at h; exact ih (i + 1) ρ2 ω2 (by omega) hlt h
    | brk ρ2 ω2 => rw [q] at h; exact h
    | ret x ω2 => rw [q] at h; exact h
    | exc x ρ2 ω2 => rw [q] at h; exact h
    | stuck => rw [q] at h; exact h.elim
theorem forL_all {tg : FG} {b : FS} {ds : List D} {ρ : Rho} {ω : Om} (P : Nat → Rho → Om → Prop) (h0 : P 0 ρ ω)
    (hs : ∀ i d ρ ω, ds[i]? = some d → P i ρ ω → ∃ ρ1 ρ2 ω2, tg d ρ = some ρ1 ∧ b ρ1 ω = .next ρ2 ω2 ∧ P (i + 1) ρ2 ω2) : ∃ ρ' ω', forL tg b ds ρ ω = .next ρ' ω' ∧ P ds.length ρ' ω' := by
  refine forL_rule P (fun o => ∃ ρ' ω', o = .next ρ' ω' ∧ P ds.length ρ' ω') h0 (fun i d ρ ω hd p => ?_) fun ρ ω p => ⟨ρ, ω, rfl, p⟩
  obtain ⟨ρ1, ρ2, ω2, h1, h2, h3⟩ := hs i d ρ ω hd p
  exact ⟨ρ1, h1, by rw [h2]; exact h3⟩
theorem lcL_pure {tg : FG} {tt : FE Bool} {el : FE D} {ρ : Rho} {ω : Om} (g : D → Option D) : ∀ (ds acc : List D), acc.length + ds.length ≤ lim →
    (∀ d ∈ ds, ∃ ρ1, tg d ρ = some ρ1 ∧ (match g d with
      | some y => tt ρ1 ω = .ok true ω ∧ el ρ1 ω = .ok y ω
      | none => tt ρ1 ω = .ok false ω)) → lcL tg tt el ρ ds acc ω = .ok (.lst (acc ++ ds.filterMap g)) ω
  | [], acc, _, _ => by unfold lcL; simp
  | d :: ds, acc, hl, h => by
    obtain ⟨ρ1, h1, h2⟩ := h d List.mem_cons_self
    rw [List.length_cons] at hl
    unfold lcL
    rw [h1]
    dsimp only
    cases q : g d with
    | some y =>
      rw [q] at h2
      obtain ⟨h3, h4⟩ := h2
      rw [h3]
      dsimp only
      rw [h4]
      dsimp only
      rw [if_pos (by omega), lcL_pure g ds (acc ++ [y]) (by simp; omega) fun d' hd' => h d' (List.mem_cons_of_mem _ hd')]
      simp [q]
    | none =>
      rw [q] at h2
      rw [h2]
      dsimp only
      rw [lcL_pure g ds acc (by omega) fun d' hd' => h d' (List.mem_cons_of_mem _ hd')]
      simp [q]
end Dl
namespace Dl
open PySem L2
def eBinO (op : D → D → Option D) (f : FE D) (g : FE (List D)) : FE D := fun ρ ω => (f ρ ω).bind fun x ω1 => (g ρ ω1).bind fun ds ω2 => Res.lift (op x (.lst ds)) ω2
def GivesB (op : D → D → Option D) : Prop := ∀ x y d, op x y = some d → ∃ b, d = .bl b
theorem givesB_ne : GivesB opNe := fun x y d h => by
  unfold opNe at h
  cases q : eqD x y with
  | none => rw [q] at h; cases h
  | some b => rw [q] at h; cases h; exact ⟨_, rfl⟩
section
variable {X : Cx} {W : WX} {a b : Expr} {pos : Pos} {f : FE D} {g : FE (List D)}
theorem tOpO_post {r : R2} {op : D → D → Option D} {ta tb : TE} (B : Bop X.K X.mg r op) (hb : GivesB op)
    (ka : ∀ G α ρ ω σ H Q, Own X.K X.mg G α ω H → Slots X.K X.mg G α ρ σ → Post X.K X.mg (RD X.K X.mg) G α H Q (fun c d H' => W c d σ H') (f ρ ω) → ta σ H Q)
    (kb : ∀ G α ρ ω σ H Q, Own X.K X.mg G α ω H → Slots X.K X.mg G α ρ σ → Post X.K X.mg (RL X.K X.mg) G α H Q (fun c d H' => W c d σ H') (g ρ ω) → tb σ H Q) :
    ∀ G α ρ ω σ H Q, Own X.K X.mg G α ω H → Slots X.K X.mg G α ρ σ → Post X.K X.mg (RD X.K X.mg) G α H Q (fun c d H' => W c d σ H') (eBinO op f g ρ ω) → tOp r ta tb σ H Q := by
  intro G α ρ ω σ H Q O S P
  refine Post.step (t := ta σ H) (ka G α ρ ω σ H · O S) P fun x ω1 v1 G1 α1 H1 e1 O1 r1 P1 => ?_
  refine Post.step (t := tb σ H1) (kb G1 α1 ρ ω1 σ H1 · O1 (S.mono e1)) P1 fun ds ω2 v2 G2 α2 H2 e2 O2 r2 P2 => ?_
  obtain ⟨d, e, P3⟩ := P2.lift
  obtain ⟨bb, rfl⟩ := hb _ _ _ e
  obtain ⟨c, vs, rfl, h1, h2⟩ := r2
  have r1' : Rep X.K X.mg G2 x v1 := Rep.mono e2.g _ _ r1
  refine B H2 H2 x (.lst ds) _ v1 _ _ (Same.refl _) e (Rep.mono O2.sub _ _ r1') (rep_lst.mpr ⟨c, vs, rfl, h1, Reps.mono O2.sub _ _ h2⟩) fun v G' H' gr q => ?_
  have g2 : Grow G2 H2 G2 H' := ⟨Same.refl _, gr.h, O2.sub.trans gr.h, fun _ _ z => .inl z⟩
  exact Post.grow O2 g2 (rep_bl.mpr (rep_bl.mp q)) P3
theorem dt_cO {o : CmpOp} {op : D → D → Option D} (hc : Cmp X o op) (hb : GivesB op) (ja : De X W a f) (jb : Dl X W b g) (hm : behindInMarks o b = false := by first | exact nomark _ | rfl) : Dt X W (.Compare a [o] [b] pos) (eTest (eBinO op f g)) := by
  obtain ⟨r, h1, h2⟩ := hc.ex
  obtain ⟨ta, pa, ka⟩ := ja
  obtain ⟨tb, pb, kb⟩ := jb
  exact ⟨_, pt_cmpR h1 pa pb hm, test_post (tOpO_post h2 hb ka kb)⟩
theorem eBinO_run (op : D → D → Option D) {ρ : Rho} {ω : Om} : eBinO op f g ρ ω = bindL (f ρ ω) (k := ⟨fun x ω1 => bindL (g ρ ω1) (k := ⟨fun ds ω2 => Res.lift (op x (.lst ds)) ω2⟩)⟩) := rfl
end
end Dl
namespace Dl
open PySem L2
def dOk : Nat → D → Bool
  | _, .non => true
  | _, .bl _ => true
  | _, .int _ => true
  | _, .str x => PyData.strOk x
  | n + 1, .tup ds => ds.all (dOk n)
  | n + 1, .lst ds => ds.all (dOk n)
  | _, _ => false
mutual
theorem eqv_refl : ∀ p : PyData, PyData.canLay0 p = true → PyData.eqv p p = true
  | .none, _ => by simp [PyData.eqv]
  | .bool b, _ => by simp [PyData.eqv]
  | .int b, _ => by simp [PyData.eqv]
  | .str x, _ => by simp [PyData.eqv]
  | .list xs, h => by
    unfold PyData.canLay0 at h
    unfold PyData.eqv
    exact eqvAll_refl xs h
  | .tuple xs, h => by
    unfold PyData.canLay0 at h
    unfold PyData.eqv
    exact eqvAll_refl xs h
  | .dict _, h => by simp [PyData.canLay0] at h
theorem eqvAll_refl : ∀ ps : List PyData, PyData.canLayAll0 ps = true → PyData.eqvAll ps ps = true
  | [], _ => by simp [PyData.eqvAll]
  | p :: ps, h => by
    unfold PyData.canLayAll0 at h
    rw [Bool.and_eq_true] at h
    unfold PyData.eqvAll
    rw [eqv_refl p h.1, eqvAll_refl ps h.2]; rfl
end
theorem toPys_ok {n : Nat} (ih : ∀ d, dOk n d = true → ∃ p, toPy d = some p ∧ PyData.canLay0 p = true ∧ PyData.depth p ≤ n) : ∀ ds : List D, ds.all (dOk n) = true → ∃ ps, toPys ds = some ps ∧ PyData.canLayAll0 ps = true ∧ PyData.depthAll ps ≤ n
  | [], _ => ⟨[], by simp [toPys], by simp [PyData.canLayAll0], by simp [PyData.depthAll]⟩
  | d :: ds, h => by
    rw [List.all_cons, Bool.and_eq_true] at h
    obtain ⟨p, e, h1, h2⟩ := ih d h.1
    obtain ⟨ps, e', h1', h2'⟩ := toPys_ok ih ds h.2
    refine ⟨p :: ps, by simp [toPys, e, e'], by simp [PyData.canLayAll0, h1, h1'], ?_⟩
    unfold PyData.depthAll
    omega
theorem toPy_ok : ∀ (n : Nat) (d : D), dOk n d = true → ∃ p, toPy d = some p ∧ PyData.canLay0 p = true ∧ PyData.depth p ≤ n
  | _, .non, _ => ⟨.none, by simp [toPy], by simp [PyData.canLay0], by simp [PyData.depth]⟩
  | _, .bl b, _ => ⟨.bool b, by simp [toPy], by simp [PyData.canLay0], by simp [PyData.depth]⟩
  | _, .int b, _ => ⟨.int b, by simp [toPy], by simp [PyData.canLay0], by simp [PyData.depth]⟩
  | _, .str x, h => ⟨.str x, by simp [toPy], by simpa [PyData.canLay0, dOk] using h, by simp [PyData.depth]⟩
  | n + 1, .tup ds, h => by
    obtain ⟨ps, e, h1, h2⟩ := toPys_ok (toPy_ok n) ds (by simpa [dOk] using h)
    exact ⟨.tuple ps, by simp [toPy, e], by simpa [PyData.canLay0] using h1, by unfold PyData.depth; omega⟩
  | n + 1, .lst ds, h => by
    obtain ⟨ps, e, h1, h2⟩ := toPys_ok (toPy_ok n) ds (by simpa [dOk] using h)
    exact ⟨.list ps, by simp [toPy, e], by simpa [PyData.canLay0] using h1, by unfold PyData.depth; omega⟩
  | 0, .tup _, h => by simp [dOk] at h
  | 0, .lst _, h => by simp [dOk] at h
  | 0, .obj _ _, h => by simp [dOk] at h
  | 0, .dcK _, h => by simp [dOk] at h
  | 0, .dcN _, h => by simp [dOk] at h
  | _ + 1, .obj _ _, h => by simp [dOk] at h
  | _ + 1, .dcK _, h => by simp [dOk] at h
  | _ + 1, .dcN _, h => by simp [dOk] at h
theorem eqD_refl {d : D} (n : Nat) (h : dOk n d = true) (hn : n ≤ 64) : eqD d d = some true := by
  obtain ⟨p, e, h1, h2⟩ := toPy_ok n d h
  unfold eqD
  rw [e]
  have hs : SeqAt.shaped p = true := by unfold SeqAt.shaped; rw [h1, decide_eq_true (Nat.le_trans h2 hn)]; rfl
  simp [hs, eqv_refl p h1]
end Dl
namespace Dl
open PySem L2
abbrev veMro : List Value := [.type "ValueError", .type "Exception", .type "BaseException", .type "object"]
structure ErrC (K : PySem.W.Frag) (mg : MG) (x : Str) (C : Addr) : Prop where
  gl : mg x = some (.ref C)
  ex : PySem.W.excIn K C veMro "ValueError.__new__" = true
  kp : PySem.W.keepIn K (.ref C) = true
  sb : PySem.W.subIn K (.ref C) (.type "BaseException") = some true
  ty : PySem.W.typeIn K (.ref C) = some (.type "type")
structure ErrI (K : PySem.W.Frag) (mg : MG) (x : Str) (C f : Addr) : Prop where
  gl : mg x = some (.ref C)
  ox : OexC K C
  ini : PySem.W.findIn K (.ref C) "__init__" = some (some (.ref f))
  fn : PySem.W.typeIn K (.ref f) = some (.type "function")
section
variable {X : Cx} {W : WX} {x : Str} {p pos pos' : Pos} {C : Addr}
theorem pmk_err0 (T : ErrC X.K X.mg x C) (hg : Gl X x) (hdb : (x == ("__debug__" : Str)) = false := by decide) : PMk X (.Call (.Name x p) [] [] pos) (fun _ H Q => Q (.ref C) none H) := by
  intro pins s σ H Q I h
  refine wpAny_Call_Name_kw (ld_glob I hg T.gl ?_ hdb)
  refine PySem.W.callWith_K0 I.kIn T.kp ?_
  show wpAny _ _ (call (.ref C) []) _ _ _
  obtain ⟨bm, N, nm, qn, bs, hdct, sn, sub, ab, col, dd, k0, k1, k2, k3, k5, mN, hC, hN, hni, Y⟩ := exc_obj I.kIn T.ex
  refine wpAny_call_exc_subT PySem.F.excBase_ValueError Y hC hN hni (fun h' e hm => ?_) (by rw [sizeLine_eq]; decide)
  exact mk_of I hm (raises_own T.sb T.ty) h (I.hok.gone hm.new)
def sRaise (x : Str) : FS := fun ρ ω => .exc ⟨x, []⟩ ρ ω
theorem ds_raise (tk : Takes X W) (T : ErrC X.K X.mg x C) (hc : X.calm = true := by rfl) (hg : Gl X x := by rfl) (hdb : (x == ("__debug__" : Str)) = false := by decide) : Ds X W (.Raise (some (.Call (.Name x p) [] [] pos')) none pos) (sRaise x) :=
  ⟨_, ps_raise hc tk (pmk_err0 T hg hdb), fun G α ρ ω σ H D O S P => P (.ref C) none σ G α H Ext.refl O S ⟨C, T.gl, rfl, .inl ⟨rfl, rfl⟩⟩⟩
def spIni (C : Addr) : List Str → Sp
  | [f] => fun vs H Q _ => ∃ a v, vs = [.ref a, v] ∧ H a = some (exo a C none) ∧ ∀ dx, H dx = none → dx ≠ a → Q .non (L2.upd (L2.upd H dx (exd dx [(f, v)])) a (exo a C (some dx)))
  | [f, g] => fun vs H Q _ => ∃ a v u, vs = [.ref a, v, u] ∧ H a = some (exo a C none) ∧ ∀ dx, H dx = none → dx ≠ a → Q .non (L2.upd (L2.upd (L2.upd H dx (exd dx [(f, v)])) a (exo a C (some dx))) dx (exd dx [(g, u), (f, v)]))
  | _ => fun _ _ _ _ => False
def sRaiseI (x : Str) (fls : List Str) (g : FE (List SV)) : FS := fun ρ ω => (g ρ ω).out ρ fun xs ω1 => match allD xs with
  | some ds => if ds.length = fls.length then .exc ⟨x, (fls.zip ds).reverse⟩ ρ ω1 else .stuck
  | none => .stuck
theorem upd_xd {H : Hp} {a dx : Addr} {o1 o2 o3 u : HO} (ha : H a = none) (ne : dx ≠ a) : L2.upd (L2.del (L2.upd (L2.upd (L2.upd H a o1) dx o2) a o3) a) dx u = L2.upd H dx u := by
  funext b
  by_cases h1 : b = dx
  · subst h1; rw [upd_same, upd_same]
  · rw [upd_ne h1, upd_ne h1]
    by_cases h2 : b = a
    · subst h2; rw [del_same, ha]
    · rw [del_ne h2, upd_ne h2, upd_ne h1, upd_ne h2]
theorem upd_xd2 {H : Hp} {a dx : Addr} {o1 o2 o3 o4 u : HO} (ha : H a = none) (ne : dx ≠ a) : L2.upd (L2.del (L2.upd (L2.upd (L2.upd (L2.upd H a o1) dx o2) a o3) dx o4) a) dx u = L2.upd H dx u := by
  funext b
  by_cases h1 : b = dx
  · subst h1; rw [upd_same, upd_same]
  · rw [upd_ne h1, upd_ne h1]
    by_cases h2 : b = a
    · subst h2; rw [del_same, ha]
    · rw [del_ne h2, upd_ne h1, upd_ne h2, upd_ne h1, upd_ne h2]
variable {f : Addr} {k : Nat} {fd : FuncData} {ps fls : List Str} {e : Expr} {es : List Expr} {g : FE (List SV)}
theorem ini_post {sp : Sp} {K : PySem.W.Frag} {mg : MG} {G H : Hp} {α : List Addr} {ω : Om} {vs : List V} {ds : List D} {Q : XK} (hsp : sp = spIni C fls) (hl : ds.length = fls.length) (h2 : fls.length = 1 ∨ fls.length = 2) (O : Own K mg G α ω H) (r : Reps K mg G ds vs)
    (hQ : ∀ dx fvs, H dx = none → RepF K mg (L2.upd G dx (.xd fvs)) (fls.zip ds).reverse fvs → Q (.ref C) (some dx) (L2.upd H dx (.xd fvs))) :
    vs.length ≤ 1000 ∧ ∀ a, H a = none → sp (.ref a :: (vs ++ [])) (L2.upd H a (exo a C none))
      (fun v H2 => v = .non ∧ ∃ (d : Addr) (fs : List (Str × V)), H2 a = some (exo a C (some d)) ∧ H2 d = some (exd d fs) ∧ H d = none ∧ Q (.ref C) (some d) (L2.upd (L2.del H2 a) d (.xd fs))) (fun _ _ _ => False) := by
  subst hsp
  have hv := r.length
  refine ⟨by omega, fun a ha => ?_⟩
  rw [List.append_nil]
  match fls, ds, hl, h2 with
  | [f1], [d1], _, _ =>
    obtain ⟨v1, rfl, r1⟩ := reps1 r
    refine ⟨a, v1, rfl, upd_same, fun dx hx ne => ⟨rfl, dx, [(f1, v1)], upd_same, ?_, ?_, ?_⟩⟩
    · rw [upd_ne ne, upd_same]
    · rw [upd_ne ne] at hx; exact hx
    · rw [upd_ne ne] at hx
      rw [upd_xd ha ne]
      exact hQ dx _ hx (repF_cons.mpr ⟨v1, [], rfl, Rep.mono (Same.upd (O.sub.free hx)) _ _ r1, repF_nil.mpr rfl⟩)
  | [f1, f2], [d1, d2], _, _ =>
    obtain ⟨v1, v2, rfl, r1, r2⟩ := reps2 r
    refine ⟨a, v1, v2, rfl, upd_same, fun dx hx ne => ⟨rfl, dx, [(f2, v2), (f1, v1)], ?_, upd_same, ?_, ?_⟩⟩
    · rw [upd_ne (Ne.symm ne), upd_same]
    · rw [upd_ne ne] at hx; exact hx
    · rw [upd_ne ne] at hx
      rw [upd_xd2 ha ne]
      have s := Same.upd (H := G) (p := dx) (o := .xd [(f2, v2), (f1, v1)]) (O.sub.free hx)
      exact hQ dx _ hx (repF_cons.mpr ⟨v2, _, rfl, Rep.mono s _ _ r2, repF_cons.mpr ⟨v1, [], rfl, Rep.mono s _ _ r1, repF_nil.mpr rfl⟩⟩)
  | [], _, _, .inl z => simp at z
  | [], _, _, .inr z => simp at z
theorem ds_raiseI (tk : Takes X W) (T : ErrI X.K X.mg x C f) (F : FnOk X.prog X.w X.K X.mg X.base (L2.CX X.prog X.w) k f fd ps (spIni C fls)) (hr : Room (k + 1) X.A) (hb : Binds X.K fd ps []) (h : Da X W (e :: es) g) (h2 : fls.length = 1 ∨ fls.length = 2 := by decide) (hc : X.calm = true := by rfl) (hg : Gl X x := by rfl)
    (hdb : (x == ("__debug__" : Str)) = false := by decide) (he : starEach (e :: es) X.env = (false, eval e X.env) :: starEach es X.env := by rfl) (hpl : (backTo pos' (starEach es X.env)).any (·.1) = false := by rfl) :
    Ds X W (.Raise (some (.Call (.Name x p) (e :: es) [] pos')) none pos) (sRaiseI x fls g) := by
  obtain ⟨t, q, j⟩ := h
  refine ⟨_, ps_raise hc tk (pmk_oex (dvs := []) T.ox T.ini T.fn F hr hb .nil (passes_call tk fun _ _ _ _ z => z.elim) hg T.gl q hdb he hpl), fun G α ρ ω σ H D O S P => ?_⟩
  refine PostS.step S (t := t σ H) (j G α ρ ω σ H · O S) P fun xs ω1 vs G1 α1 H1 e1 O1 r1 P1 => ?_
  cases q1 : allD xs with
  | none => rw [q1] at P1; exact P1.elim
  | some ds =>
    rw [q1] at P1
    dsimp only at P1
    split at P1
    · rename_i hl
      refine ini_post (C := C) (Q := fun cls d H' => W cls d σ H') rfl hl h2 O1 (allD_reps q1 r1) fun dx fvs hx rf => ?_
      have gr := Grow.put (o := HO.xd fvs) O1.sub hx
      exact P1 (.ref C) (some dx) σ _ α1 _ gr.ext (O1.grow gr) ((S.mono e1).mono (gr.ext (α := α1))) ⟨C, T.gl, rfl, .inr ⟨dx, fvs, rfl, upd_same, rf⟩⟩
    · exact P1.elim
end
section
variable {P : Program} {w : World} {K : PySem.W.Frag} {mg : MG} {base : Heap}
theorem ini_ok1 {x qual : Str} {st : Stmt} {f C : Addr} {fd : FuncData} {fl a1 : Str} {p1 p2 p3 p4 : Pos} (F : Fun K x qual st f fd) (S : FnScope ["self", a1] ["self", a1] (defScope st)) (ox : OexC K C) (no : PySem.W.findIn K (.ref C) fl = some none)
    (hb : defBody st = [.Assign [.Attribute (.Name "self" p1) fl p2] (.Name a1 p3) p4])
    (hp : ∀ (cdv : Value) (A : Around) (outer : List Env) (s : Shared) (H : Hp) (E : XK), ∃ te, PS (cxOf (L2.CX P w) P w K mg base ["self", a1] qual (defScope st) f cdv A outer s H E) (.Assign [.Attribute (.Name "self" p1) fl p2] (.Name a1 p3) p4) (tOst K fl (tVar 0) (tVar te)) ∧ te = 1) :
    FnOk P w K mg base (L2.CX P w) 1 f fd ["self", a1] (spIni C [fl]) := by
  refine F.okX (k := 0) S (fun vs H Q E h => ?_) (fun cdv A outer s H vs Q E hr h => ?_)
  · obtain ⟨a, v, rfl, _⟩ := h; rfl
  · obtain ⟨a, v, rfl, ha, q⟩ := h
    obtain ⟨_, t, rfl⟩ := hp cdv A outer s H E
    rw [hb]
    refine ⟨_, pss_one t, v, rfl, .ref a, rfl, a, C, rfl, ox, no, .inl ⟨ha, fun dx h1 h2 => q dx h1 h2⟩⟩
end
end Dl
namespace Dl
open PySem L2 PySem.Spec PyProof.Rows
abbrev TSu := Addr → Value → Option Addr → TS
def wAll (K : PySem.W.Frag) (Wo : WX) (D : Ends) (i : Nat) : List (Value × TSu) → WX
  | [] => Wo
  | (c, ts) :: r => fun cls d σ H => ∃ b, PySem.W.exmOne K cls c = some b ∧
      (b = true → ∀ a, H a = none → ts a cls d ⟨fun σ' H' => D.nx (σ'.set i none) H', D.rt, fun σ' H' => D.bk (σ'.set i none) H', fun σ' H' => D.ct (σ'.set i none) H'⟩ (σ.set i (some (.ref a))) H) ∧ (b = false → wAll K Wo D i r cls d σ H)
abbrev SuAt (X : Cx) (b : List Stmt) (ts : TSu) : Prop := ∀ (a : Addr) (oe : Obj) (cls : Value) (d : Option Addr) (pn : List (Addr × Obj)), Zc cls d oe → (∃ vs, oe.data = .fields vs) → PSs (X.suite a ((a, oe) :: pn)) b (ts a cls d)
inductive Cls1 (X : Cx) (n : Str) : List ExceptHandler → List (Value × TSu) → Prop
  | nil : Cls1 X n [] []
  | cons {x : Str} {c : Value} {ts : TSu} {b : Stmt} {su : List Stmt} {p1 p2 : Pos} {hds : List ExceptHandler} {l : List (Value × TSu)} (hc : Names X x c) (hsu : SuAt X (b :: su) ts) (r : Cls1 X n hds l) :
      Cls1 X n (.ExceptHandler (some (.Name x p1)) (some n) (b :: su) p2 :: hds) ((c, ts) :: l)
section
variable {X : Cx} {n : Str} {i : Nat} {body : List Stmt} {h₀ : ExceptHandler} {hds : List ExceptHandler} {l : List (Value × TSu)} {pos : Pos} {tb : WX → TS} {Wo : WX}
theorem ps_try_all (hs : X.stack = X.env :: X.outer) (hf : X.env.frame = some X.env.locals) (hN : X.N.Nodup) (hi : X.N[i]? = some n) (hln : X.env.kindOf n = some .local) (tk : Takes X Wo)
    (hb : ∀ (W : WX) (pn : List (Addr × Obj)) (xe : Value → Shared → Prop), Takes (X.tr pn xe) W → PassesOwn (model X.prog X.w) X.A X.env xe → PSs (X.tr pn xe) body (tb W))
    (hh : Cls1 X n (h₀ :: hds) l) : PS X (.Try body (h₀ :: hds) [] [] pos) (fun D σ H => tb (wAll X.K Wo D i l) D σ H) := by
  refine ⟨fun pins s σ H D I h => ?_⟩
  have ok := I.ok
  have hfr : X.A.frames = some (X.env :: X.outer) := by rw [ok.frames, hs]
  refine wpAny_Try_except ?_
  refine wpAny_mono ((hb (wAll X.K Wo D i l) (X.pn ++ pins) (fun e s1 => wpAny (model X.prog X.w) X.A (noteFrame e X.env) (fun _ s2 => wpAny (model X.prog X.w) X.A (setFlight e none) (fun _ s3 =>
    wpAny (model X.prog X.w) X.A (handleBy e X.env (h₀ :: hds)) (SP X pins D) X.xe s3) X.xe s2) X.xe s1) (fun u s' xx => ?_) PassesOwn.looking).run [] s σ H D (I.toTry _) h) (fun f s1 q => ?_) (fun e s1 he => he)
  · obtain ⟨a, B, sI, pins', σ1, H1, cls, d, rfl, J0, nb, up, sky, na, os, ag, w⟩ := xx
    have J : Inv X pins σ1 H1 sI := J0.ofTry ok
    rw [hs] at sky
    show wpAny (model X.prog X.w) X.A (noteFrame (.ref a) X.env) _ _ _
    refine Sky.land Zc.steady hfr hf sky fun h3 fl3 up3 => ?_
    have J3 : Inv X pins σ1 H1 { s' with heap := h3 } := J.landed nb fl3.1 (up.trans up3) os ag
    obtain ⟨oe3, vs3, he3, hz3, hd3⟩ := fl3.there
    have nfr : a ∉ frs (X.env :: X.outer) := fun hm => by
      obtain ⟨_, o', e', hnf⟩ := fl3.2.2.1.mem hm
      rw [he3] at e'; cases e'
      exact hnf _ hd3
    have nL : a ≠ X.env.locals := fun z => nfr (List.mem_filterMap.mpr ⟨X.env, List.mem_cons_self, by rw [hf, z]⟩)
    have nF : a ∉ X.fs := fun hm => by
      obtain ⟨e, he, q⟩ := List.mem_filterMap.mp hm
      exact nfr (List.mem_filterMap.mpr ⟨e, List.mem_cons_of_mem _ he, q⟩)
    have S3 := J3.suite he3 hd3 na nL nF
    have go : ∀ {hs1 : List ExceptHandler} {l1 : List (Value × TSu)}, Cls1 X n hs1 l1 → wAll X.K Wo D i l1 cls d σ1 H1 → wpAny (model X.prog X.w) X.A (handleBy (.ref a) X.env hs1) (SP X pins D) X.xe { s' with heap := h3 } := by
      intro hs1 l1 hk
      induction hk with
      | nil =>
        intro w
        refine wpAny_handleBy_nil ?_
        obtain ⟨k1, k2, k3, oe, vs, T, oT, ts', he, hz, hd, h1, hr⟩ := id fl3
        unfold PySem.passOn
        refine wpAny_bind (wpAny_field he hd h1 ?_)
        rw [if_neg (by simp)]
        have fin : wpAny (model X.prog X.w) X.A (setFlight (.ref a) X.env.frame) (fun _ s4 => wpAny (model X.prog X.w) X.A (throw (.ref a) : Sem Flow) (SP X pins D) X.xe s4) X.xe { s' with heap := h3 } := by
          rw [hf]
          refine HandSPX.setFlight_upZ fl3 fun h4 hh4 up4 => wpAny_throw (tk _ _ ?_)
          exact ⟨a, B, sI, pins, σ1, H1, cls, d, rfl, J, nb, (up.trans up3).trans up4, .inr (.inr (by rw [hs]; exact hh4)), na, os, ag, w⟩
        first | exact wpAny_bind (wpAny_pure (wpAny_bind fin)) | exact wpAny_bind fin
      | @cons x c ts b su p1 p2 hds2 l2 hc hsu r ih =>
        intro w
        obtain ⟨t, ht, yes, no⟩ := w
        refine wpAny_handleBy_cons (codeAny_handlers_test ?_) (by intro q; cases q)
        have LT : PySem.W.Looks (model X.prog X.w) h3 (typeOf (.ref a)) cls := fun A Q E s k q => wpAny_typeOf_ref (k _ _ he3) (by rw [hz3.1]; exact q)
        have LM := PySem.W.exm_one (M := model X.prog X.w) (J3.kIn) LT ht
        have test : ∀ {Q E : Value → Shared → Prop}, Q c { s' with heap := h3 } → wpAny (model X.prog X.w) (X.A.mark (some (.ref a))) (eval (.Name x p1) X.env) Q E { s' with heap := h3 } := fun {Q E} q => by
          obtain ⟨hg, hdbg, hm | ⟨hm, hv, hnn⟩⟩ := hc
          · exact ld_glob (X := X.suite a ((a, oe3) :: (X.pn ++ pins))) S3 hg hm q hdbg
          · exact ld_blt (X := X.suite a ((a, oe3) :: (X.pn ++ pins))) S3 hg hm hv q hnn hdbg
        refine test (LM.here ?_)
        cases t with
        | true =>
          refine codeAny_handlers_suite_as ?_
          refine HandSPX.lands_againZ fl3 fun h4 fl4 up4 => ?_
          have J4 : Inv X pins σ1 H1 { s' with heap := h4 } := J.landed nb fl4.1 ((up.trans up3).trans up4) os ag
          obtain ⟨oe4, vs4, he4, hz4, hd4⟩ := fl4.there
          have S4 := J4.suite he4 hd4 na nL nF
          refine store_ok (X := X.suite a ((a, oe4) :: (X.pn ++ pins))) (v := .ref a) S4 hN hi (.inl hln) rfl (fun s5 S5 => ?_) (.inr hln)
          refine wpAny_mono ((hsu a oe4 cls d (X.pn ++ pins) hz4 ⟨_, hd4⟩).run [] s5 _ H1 _ S5 (yes rfl a na)) (fun f s6 q => ?_) (fun _ _ z => False.elim z)
          have end_ : ∀ {σ6 : L2.St} {H6 : Hp} {Q : Shared → Prop}, Inv (X.suite a ((a, oe4) :: (X.pn ++ pins))) [] σ6 H6 s6 → (∀ s7, Inv X pins (σ6.set i none) H6 s7 → Q s7) →
              wpAny (model X.prog X.w) X.A (do bindName X.env n .none; unbindBehindTheSuite X.env n p2) (fun _ s7 => Q s7) X.xe s6 := fun {σ6 H6 Q} S6 hq => gone_ok (S6.unsuite ok) hN hi hln hq
          cases f with
          | next => obtain ⟨σ6, H6, S6, q6⟩ := q; exact end_ S6 fun s7 J7 => ⟨_, _, J7, q6⟩
          | brk => obtain ⟨σ6, H6, S6, q6⟩ := q; exact end_ S6 fun s7 J7 => ⟨_, _, J7, q6⟩
          | cont => obtain ⟨σ6, H6, S6, q6⟩ := q; exact end_ S6 fun s7 J7 => ⟨_, _, J7, q6⟩
          | ret u => obtain ⟨v6, σ6, H6, S6, r6, q6⟩ := q; exact end_ S6 fun s7 J7 => ⟨_, _, _, J7, r6, q6⟩
        | false =>
          show wpAny _ X.A (handleBy (.ref a) X.env hds2) _ _ _
          exact ih (no rfl)
    exact go hh w
  · cases f with
    | next => obtain ⟨σ1, H1, J1, q⟩ := q; exact wpAny_execs_nil ⟨σ1, H1, J1.ofTry ok, q⟩
    | brk => obtain ⟨σ1, H1, J1, q⟩ := q; exact ⟨σ1, H1, J1.ofTry ok, q⟩
    | cont => obtain ⟨σ1, H1, J1, q⟩ := q; exact ⟨σ1, H1, J1.ofTry ok, q⟩
    | ret u => obtain ⟨v, σ1, H1, J1, r, q⟩ := q; exact ⟨v, σ1, H1, J1.ofTry ok, r, q⟩
end
def subX (x c : Str) : Bool := x == c || c == "StripError" || c == "ValueError"
def unbind (i : Nat) : Out → Out
  | .next ρ ω => .next (ρ.set i none) ω
  | .brk ρ ω => .brk (ρ.set i none) ω
  | .cont ρ ω => .cont (ρ.set i none) ω
  | .ret x ω => .ret x ω
  | _ => .stuck
def tryH (i : Nat) (x : Exn) (ρ : Rho) (ω : Om) : List (Str × (Exn → FS)) → Out
  | [] => .exc x ρ ω
  | (c, f) :: r => if subX x.cls c = true then unbind i (f x (ρ.set i none) ω) else tryH i x ρ ω r
def tryO (nms : List Str) (i : Nat) (hs : List (Str × (Exn → FS))) : Out → Out
  | .exc x ρ ω => if nms.contains x.cls = true ∧ i < ρ.length then tryH i x ρ ω hs else .stuck
  | o => o
def sTry (nms : List Str) (i : Nat) (b : FS) (hs : List (Str × (Exn → FS))) : FS := fun ρ ω => tryO nms i hs (b ρ ω)
def tSu (K : PySem.W.Frag) (mg : MG) (nms : List Str) (i : Nat) (f : Exn → FS) : TSu := fun a cls d D σ H => ∃ G α ρ ω x, nms.contains x.cls = true ∧ Own K mg G α ω H ∧ Slots K mg G α ρ σ ∧ σ[i]? = some (some (.ref a)) ∧ RepX K mg G x cls d ∧ PostS K mg G α H D W0 (f x ρ ω)
def SuOk (X : Cx) (nms : List Str) (i : Nat) (b : List Stmt) (f : Exn → FS) : Prop := SuAt X b (tSu X.K X.mg nms i f)
def Catches (K : PySem.W.Frag) (mg : MG) (nms : List Str) (c : Str) (C : Addr) : Prop := ∀ n ∈ nms, ∃ D, mg n = some (.ref D) ∧ PySem.W.exmOne K (.ref D) (.ref C) = some (subX n c)
inductive Hds (X : Cx) (nms : List Str) (n : Str) (i : Nat) : List ExceptHandler → List (Str × (Exn → FS)) → Prop
  | nil : Hds X nms n i [] []
  | cons {x : Str} {C : Addr} {f : Exn → FS} {b : Stmt} {su : List Stmt} {p1 p2 : Pos} {hds : List ExceptHandler} {l : List (Str × (Exn → FS))} (hg : Gl X x) (hd : (x == ("__debug__" : Str)) = false) (hm : X.mg x = some (.ref C)) (hx : Catches X.K X.mg nms x C) (hsu : SuOk X nms i (b :: su) f) (r : Hds X nms n i hds l) :
      Hds X nms n i (.ExceptHandler (some (.Name x p1)) (some n) (b :: su) p2 :: hds) ((x, f) :: l)
section
variable {X : Cx} {W : WX} {n : Str} {i : Nat} {nms : List Str} {body : List Stmt} {h₀ : ExceptHandler} {hds : List ExceptHandler} {l : List (Str × (Exn → FS))} {pos : Pos} {fb : FS}
theorem Slots.setA {K : PySem.W.Frag} {mg : MG} {G : Hp} {α : List Addr} {ρ : Rho} {σ : L2.St} (S : Slots K mg G α ρ σ) (i : Nat) (v : Option V) : Slots K mg G α (ρ.set i none) (σ.set i v) := by
  refine ⟨by rw [List.length_set, List.length_set]; exact S.len, fun j x h => ?_⟩
  by_cases e : i = j
  · subst e
    rw [List.getElem?_set] at h
    simp at h
  · rw [List.getElem?_set_ne e] at h
    obtain ⟨v, h1, h2⟩ := S.val j x h
    exact ⟨v, by rw [List.getElem?_set_ne e]; exact h1, h2⟩
def tBody (K : PySem.W.Frag) (mg : MG) (f : FS) (W : WX) : TS := fun D σ H => ∃ G α ρ ω, Own K mg G α ω H ∧ Slots K mg G α ρ σ ∧ PostS K mg G α H D W (f ρ ω)
theorem can_ss (h : Dss X W body fb) : PSs X body (tBody X.K X.mg fb W) := by
  obtain ⟨t, p, k⟩ := h
  exact ⟨fun pins s σ H D I ⟨G, α, ρ, ω, O, S, P⟩ => p.run pins s σ H D I (k G α ρ ω σ H D O S P)⟩
theorem unbind_post {K : PySem.W.Frag} {mg : MG} {G H : Hp} {α : List Addr} {D : Ends} : ∀ {o : Out}, PostS K mg G α H D W (unbind i o) →
    PostS K mg G α H ⟨fun σ' H' => D.nx (σ'.set i none) H', D.rt, fun σ' H' => D.bk (σ'.set i none) H', fun σ' H' => D.ct (σ'.set i none) H'⟩ W0 o
  | .stuck, h => h
  | .exc _ _ _, h => h.elim
  | .next ρ ω, h => fun σ' G' α' H' e O S => h _ G' α' H' e O (S.setA i none)
  | .brk ρ ω, h => fun σ' G' α' H' e O S => h _ G' α' H' e O (S.setA i none)
  | .cont ρ ω, h => fun σ' G' α' H' e O S => h _ G' α' H' e O (S.setA i none)
  | .ret x ω, h => h
def lTs (K : PySem.W.Frag) (mg : MG) (nms : List Str) (i : Nat) : List (Str × (Exn → FS)) → List (Value × TSu)
  | [] => []
  | (c, f) :: r => ((mg c).getD .none, tSu K mg nms i f) :: lTs K mg nms i r
theorem Hds.cls {hds : List ExceptHandler} {l : List (Str × (Exn → FS))} (h : Hds X nms n i hds l) : Cls1 X n hds (lTs X.K X.mg nms i l) := by
  induction h with
  | nil => exact .nil
  | cons hg hd hm hx hsu r ih =>
    unfold lTs
    rw [hm]
    exact .cons ⟨hg, hd, .inl hm⟩ hsu ih
theorem hds_post {D : Ends} {x : Exn} {cls : Value} {dd : Option Addr} {G H : Hp} {α : List Addr} {ρ : Rho} {ω : Om} {σ : L2.St} (hil : i < ρ.length) (hn : nms.contains x.cls = true) (O : Own X.K X.mg G α ω H) (S : Slots X.K X.mg G α ρ σ) (r : RepX X.K X.mg G x cls dd) {hds : List ExceptHandler} {l : List (Str × (Exn → FS))} (h : Hds X nms n i hds l)
    (P : PostS X.K X.mg G α H D W (tryH i x ρ ω l)) : wAll X.K W D i (lTs X.K X.mg nms i l) cls dd σ H := by
  induction h with
  | nil => exact P cls dd σ G α H Ext.refl O S r
  | @cons c C f b su p1 p2 hds l hg hd hm hx hsu t ih =>
    unfold lTs wAll
    obtain ⟨E, hE, hs⟩ := hx x.cls (List.contains_iff_mem.mp hn)
    obtain ⟨E', hE', rfl, r'⟩ := id r
    rw [hE'] at hE; cases hE
    refine ⟨_, by rw [hm]; exact hs, fun hb a ha => ?_, fun hb => ?_⟩
    · unfold tryH at P
      rw [if_pos hb] at P
      refine ⟨G, α, ρ.set i none, ω, x, hn, O, S.setA i _, ?_, r, unbind_post P⟩
      rw [List.getElem?_set_self (by rw [S.len]; exact hil)]
    · unfold tryH at P
      rw [if_neg (by rw [hb]; decide)] at P
      exact ih P
theorem ds_try (tk : Takes X W) (hs : X.stack = X.env :: X.outer := by rfl) (hf : X.env.frame = some X.env.locals := by rfl) (hN : X.N.Nodup) (hi : X.N[i]? = some n := by rfl) (hln : X.env.kindOf n = some .local := by rfl)
    (hb : ∀ (W : WX) (pn : List (Addr × Obj)) (xe : Value → Shared → Prop), Takes (X.tr pn xe) W → PassesOwn (model X.prog X.w) X.A X.env xe → Dss (X.tr pn xe) W body fb)
    (hh : Hds X nms n i (h₀ :: hds) l) : Ds X W (.Try body (h₀ :: hds) [] [] pos) (sTry nms i fb l) := by
  refine ⟨_, ps_try_all (tb := tBody X.K X.mg fb) hs hf hN hi hln tk (fun W' pn xe tk' hp => can_ss (hb W' pn xe tk' hp)) hh.cls, fun G α ρ ω σ H D O S P => ⟨G, α, ρ, ω, O, S, ?_⟩⟩
  unfold sTry at P
  cases q : fb ρ ω with
  | stuck => rw [q] at P; exact P
  | next _ _ => rw [q] at P; exact P
  | brk _ _ => rw [q] at P; exact P
  | cont _ _ => rw [q] at P; exact P
  | ret _ _ => rw [q] at P; exact P
  | exc x ρ1 ω1 =>
    rw [q] at P
    unfold tryO at P
    intro c dd σ' G' α' H' e O' S' r
    by_cases hn : nms.contains x.cls = true ∧ i < ρ1.length
    · dsimp only at P
      rw [if_pos hn] at P
      exact hds_post hn.2 hn.1 O' S' r hh (PostS.weak e P)
    · dsimp only at P
      rw [if_neg hn] at P
      exact P.elim
end
end Dl
namespace Dl
open PySem L2
structure ErrX (K : PySem.W.Frag) (mg : MG) (x : Str) (C : Addr) : Prop where
  gl : mg x = some (.ref C)
  xc : ExcC K C
  ty : PySem.W.typeIn K (.ref C) = some (.type "type")
  self : PySem.W.subIn K (.ref C) (.ref C) = some true
section
variable {K : PySem.W.Frag} {mg : MG} {x c : Str} {C D : Addr} {nms : List Str}
theorem ErrX.exm (T : ErrX K mg c C) {b : Bool} (h : PySem.W.subIn K (.ref D) (.ref C) = some b) : PySem.W.exmOne K (.ref D) (.ref C) = some b := PySem.W.exm_ref T.xc.hs T.xc.hd T.ty h
theorem ErrX.kit (T : ErrX K mg c C) {b : Bool} (h : PySem.W.subIn K (.ref D) (.ref C) = some b) : PySem.W.kitOne K (.ref D) (.ref C) = some b := by
  obtain ⟨cd, hc, _⟩ := PySem.W.any_some T.xc.hd
  have e2 : ((PySem.W.clsIn K C).isSome && PySem.W.typeIn K (.ref C) == some (.type "type")) = true := by rw [hc, T.ty] <;> rfl
  unfold PySem.W.kitOne
  by_cases e : ((Value.ref D == Value.ref C) = true)
  · rw [if_pos e]
    have := Value.ref.inj (beq_iff_eq.mp e)
    subst this
    rw [T.self] at h
    exact h
  · rw [if_neg e]
    unfold PySem.W.kitCls
    dsimp only
    rw [if_pos e2]
    exact h
theorem catches_nil : Catches K mg [] c C := fun n h => by cases h
theorem catches_cons (T : ErrX K mg c C) (N : ErrX K mg x D) (h : PySem.W.subIn K (.ref D) (.ref C) = some (subX x c)) (r : Catches K mg nms c C) : Catches K mg (x :: nms) c C := fun n hn => by
  rcases List.mem_cons.mp hn with rfl | hn
  · exact ⟨D, N.gl, T.exm h⟩
  · exact r n hn
def Isx (K : PySem.W.Frag) (mg : MG) (nms : List Str) (c : Str) (C : Value) : Prop := ∀ n ∈ nms, ∃ D, mg n = some (.ref D) ∧ ExcC K D ∧ PySem.W.kitOne K (.ref D) C = some (subX n c)
theorem isx_nil {v : Value} : Isx K mg [] c v := fun n h => by cases h
theorem isx_cons (T : ErrX K mg c C) (N : ErrX K mg x D) (h : PySem.W.subIn K (.ref D) (.ref C) = some (subX x c)) (r : Isx K mg nms c (.ref C)) : Isx K mg (x :: nms) c (.ref C) := fun n hn => by
  rcases List.mem_cons.mp hn with rfl | hn
  · exact ⟨D, N.gl, N.xc, T.kit h⟩
  · exact r n hn
end
def rIsX (K : PySem.W.Frag) (a : Addr) (cls : Value) (d : Option Addr) : List V → Hp → VK → Prop := fun xs H Q => ∃ (c : V) (cv : Value) (D : Addr) (b : Bool), xs = [.ref a, c] ∧ (∀ u, RelV c u → u = cv) ∧ cls = .ref D ∧ ExcC K D ∧ PySem.W.kitOne K (.ref D) cv = some b ∧
  (d = none ∨ ∃ dd fs, d = some dd ∧ H dd = some (.xd fs)) ∧ Q (.bl b) H
theorem call_isX {X : Cx} {a : Addr} {cls : Value} {d : Option Addr} {oe : Obj} {pn : List (Addr × Obj)} (hz : Zc cls d oe) (hf : ∃ vs, oe.data = .fields vs) : CallR (X.suite a ((a, oe) :: pn)) (.builtin "isinstance") (rIsX X.K a cls d) := by
  intro pins s σ H xs us Q I r h
  obtain ⟨c, cv, D, b, rfl, hcv, rfl, C, e, hd, q⟩ := h
  cases r with
  | cons rx rr =>
    cases rr with
    | cons rt rr =>
      cases rr
      cases rx
      have ec := hcv _ rt
      subst ec
      obtain ⟨hget, _⟩ := I.pin (a, oe) (List.mem_append.mpr (.inl List.mem_cons_self))
      obtain ⟨vs, hv⟩ := hf
      have hcl : (PySem.W.clsIn X.K D).isSome = true := by
        obtain ⟨cd, hc, _⟩ := PySem.W.any_some C.hd
        rw [hc]; rfl
      have J : ∃ od, PySem.W.InstAt s.heap a oe D od := by
        rcases hd with rfl | ⟨dd, fs, rfl, hx⟩
        · refine ⟨none, ?_⟩
          obtain ⟨oc, od, oda, osl⟩ := oe
          obtain ⟨h1, h2⟩ := hz
          dsimp only at h1 h2 hv
          subst h1 h2 hv
          exact ⟨hget, rfl, rfl, trivial⟩
        · have hk : ObjOk X.prog X.w H s.heap dd (.xd fs) := I.hok dd _ hx
          obtain ⟨mA, hns, hr⟩ := hk
          obtain ⟨od, ho, hl⟩ := lookIn_ns hns
          exact ⟨some od, hget, hz.1, by unfold PySem.W.notCls; rw [hv] <;> rfl, by rw [hz.2]; exact ho⟩
      obtain ⟨od, J⟩ := J
      exact PySem.W.kia_one (PySem.W.kitx_exc hcl C.hg C.hk C.hs C.ha C.hn C.ht C.hm) I.kIn J e (fun z => nomatch z) fun tk => ⟨.bl b, H, I.kept (t' := tk) fun _ _ z => z, rfl, q⟩
theorem Res.bind_assoc {β γ δ : Type} (r : Res β) (f : β → Om → Res γ) (g : γ → Om → Res δ) : (r.bind f).bind g = r.bind fun b ω => (f b ω).bind g := by cases r <;> rfl
def tDx (K : PySem.W.Frag) (mg : MG) (nms : List Str) (i : Nat) (f : Exn → FE D) (a : Addr) (cls : Value) (d : Option Addr) : TE := fun σ H Q => ∃ G α ρ ω x, nms.contains x.cls = true ∧ Own K mg G α ω H ∧ Slots K mg G α ρ σ ∧ σ[i]? = some (some (.ref a)) ∧ RepX K mg G x cls d ∧ Post K mg (RD K mg) G α H Q (fun _ _ _ => False) (f x ρ ω)
def Dx (X : Cx) (nms : List Str) (i : Nat) (e : Expr) (f : Exn → FE D) : Prop := ∀ (a : Addr) (oe : Obj) (cls : Value) (d : Option Addr) (pn : List (Addr × Obj)), Zc cls d oe → (∃ vs, oe.data = .fields vs) → PE (X.suite a ((a, oe) :: pn)) e (tDx X.K X.mg nms i f a cls d)
def tDxA (K : PySem.W.Frag) (mg : MG) (nms : List Str) (i : Nat) (f : Exn → FE (List SV)) (a : Addr) (cls : Value) (d : Option Addr) : TA := fun σ H Q => ∃ G α ρ ω x, nms.contains x.cls = true ∧ Own K mg G α ω H ∧ Slots K mg G α ρ σ ∧ σ[i]? = some (some (.ref a)) ∧ RepX K mg G x cls d ∧ Post K mg (RA K mg) G α H Q (fun _ _ _ => False) (f x ρ ω)
def DxA (X : Cx) (nms : List Str) (i : Nat) (es : List Expr) (f : Exn → FE (List SV)) : Prop := ∀ (a : Addr) (oe : Obj) (cls : Value) (d : Option Addr) (pn : List (Addr × Obj)), Zc cls d oe → (∃ vs, oe.data = .fields vs) → PA (X.suite a ((a, oe) :: pn)) es (tDxA X.K X.mg nms i f a cls d)
section
variable {X : Cx} {nms : List Str} {i : Nat} {e a b c : Expr} {es : List Expr} {pos p p1 p2 : Pos} {n s : Str}
theorem dx_of {f : FE D} (h : ∀ (a : Addr) (oe : Obj) (pn : List (Addr × Obj)), De (X.suite a ((a, oe) :: pn)) W0 e f) : Dx X nms i e (fun _ => f) := by
  intro a oe cls d pn hz hf
  obtain ⟨t, q, k⟩ := h a oe pn
  exact ⟨fun pins s σ H Q I ⟨G, α, ρ, ω, x, hn, O, S, hi, r, P⟩ => q.run pins s σ H Q I (k G α ρ ω σ H Q O S P)⟩
def eIsx (s : Str) (x : Exn) : FE D := fun _ ω => .ok (.bl (subX x.cls s)) ω
theorem dx_isi {C : Addr} (hi : X.mg "isinstance" = none) (hs : X.mg s = some (.ref C)) (T : Isx X.K X.mg nms s (.ref C)) (hN : X.N[i]? = some n := by rfl) (hv : Vis X.env.scope n := by first | exact Or.inl rfl | exact Or.inr (Or.inl rfl) | exact Or.inr (Or.inr rfl)) (hd : (n == ("__debug__" : Str)) = false := by decide) (hcd : (n == ("__classdict__" : Str)) = false := by decide)
    (hgs : Gl X s := by rfl) (hds : (s == ("__debug__" : Str)) = false := by decide) (hg : Gl X "isinstance" := by rfl) (he : starEach [.Name n p1, .Name s p2] X.env = (false, eval (.Name n p1) X.env) :: starEach [.Name s p2] X.env := by rfl) (he2 : starEach [.Name s p2] X.env = (false, eval (.Name s p2) X.env) :: starEach [] X.env := by rfl)
    (hpl : (backTo pos (starEach [.Name s p2] X.env)).any (·.1) = false := by rfl) (hvi : bootBuiltins "isinstance" = some (.builtin "isinstance") := by decide +kernel) : Dx X nms i (.Call (.Name "isinstance" p) [.Name n p1, .Name s p2] [] pos) (eIsx s) := by
  intro a oe cls d pn hz hf
  have q := pe_callB (X := X.suite a ((a, oe) :: pn)) (p := p) (pos := pos) (call_isX hz hf) hg hi hvi (pa_cons (pe_var (pos := p1) hN hv hd hcd) (pa_cons (pe_glob (v := .ref C) (pos := p2) hgs hs rfl hds) pa_nil he2) he) (by decide) (by decide) he hpl
  refine ⟨fun pins st σ H Q I ⟨G, α, ρ, ω, x, hn, O, S, hi, r, P⟩ => q.run pins st σ H Q I ?_⟩
  obtain ⟨D, hD, xc, kt⟩ := T x.cls (List.contains_iff_mem.mp hn)
  obtain ⟨D', hD', rfl, r'⟩ := id r
  rw [hD'] at hD; cases hD
  refine ⟨.ref a, hi, .ref C, .ref C, _, _, rfl, fun u hu => hu, rfl, xc, kt, ?_, Post.here O (show Rep X.K X.mg G _ _ from rep_bl.mpr rfl) P⟩
  rcases r' with ⟨_, h⟩ | ⟨dd, fvs, h, h2, _⟩
  · exact .inl h
  · exact .inr ⟨dd, fvs, h, O.sub _ _ h2⟩
def eXf (c f : Str) (x : Exn) : FE D := fun _ ω => if x.cls = c then Res.lift (x.fs.lookup f) ω else .stuck
structure XfD (K : PySem.W.Frag) (mg : MG) (c f : Str) (C : Addr) : Prop where
  gl : mg c = some (.ref C)
  xf : XfC K C
  no : PySem.W.findIn K (.ref C) f = some none
theorem dx_fld {C : Addr} {c f : Str} (T : XfD X.K X.mg c f C) (hN : X.N[i]? = some n := by rfl) (hv : Vis X.env.scope n := by first | exact Or.inl rfl | exact Or.inr (Or.inl rfl) | exact Or.inr (Or.inr rfl)) (hd : (n == ("__debug__" : Str)) = false := by decide) (hcd : (n == ("__classdict__" : Str)) = false := by decide)
    (hb : attributeBase (.Name n p1) f X.env (eval (.Name n p1) X.env) = eval (.Name n p1) X.env := by rfl) : Dx X nms i (.Attribute (.Name n p1) f pos) (eXf c f) := by
  intro a oe cls d pn hz hf
  have q := pe_xf (X := X) (a := a) (pos := pos) (pn := pn) T.xf T.no hz hf (pe_var (X := X.suite a ((a, oe) :: pn)) (pos := p1) hN hv hd hcd) hb
  refine ⟨fun pins st σ H Q I ⟨G, α, ρ, ω, x, hn, O, S, hi, r, P⟩ => q.run pins st σ H Q I ?_⟩
  unfold eXf at P
  split at P
  · rename_i hc
    obtain ⟨D', hD', rfl, r'⟩ := id r
    rw [hc, T.gl] at hD'; cases hD'
    obtain ⟨v, e1, P⟩ := P.lift
    rcases r' with ⟨h, _⟩ | ⟨dd, fvs, h, h2, h3⟩
    · rw [h] at e1; cases e1
    · obtain ⟨u, h4, h5⟩ := h3.look e1
      exact ⟨.ref a, hi, rfl, rfl, dd, fvs, u, h, O.sub _ _ h2, h4, Post.here O (show Rep X.K X.mg G _ _ from h5) P⟩
  · exact P.elim
theorem dx_if {fc fa fb : Exn → FE D} (hc : Dx X nms i c fc) (ha : Dx X nms i a fa) (hb : Dx X nms i b fb) (hcv : ∀ whole, isTrue c X.env whole = (do let v ← whole; standAt c.pos; holding [v] (truthy v)) := by intro _; rfl) : Dx X nms i (.IfExp c a b pos) (fun x => eIf (eTest (fc x)) (fa x) (fb x)) := by
  intro ad oe cls d pn hz hf
  have q := pe_ifExp (pos := pos) (pt_val (hc ad oe cls d pn hz hf) hcv) (ha ad oe cls d pn hz hf) (hb ad oe cls d pn hz hf)
  refine ⟨fun pins st σ H Q I ⟨G, α, ρ, ω, x, hn, O, S, hi, r, P⟩ => q.run pins st σ H Q I ?_⟩
  unfold eIf eTest at P
  dsimp only at P
  rw [Res.bind_assoc] at P
  refine Post.step (t := tDx X.K X.mg nms i fc ad cls d σ H) (R := RD X.K X.mg) (fun Q P => ⟨G, α, ρ, ω, x, hn, O, S, hi, r, P⟩) P fun y ω1 v1 G1 α1 H1 e1 O1 r1 P1 => ?_
  cases y with
  | bl k =>
    have r2 : Rep X.K X.mg G1 (.bl k) v1 := r1
    rw [rep_bl] at r2
    refine ⟨k, r2, ?_⟩
    cases k with
    | true => exact iteT ⟨G1, α1, ρ, ω1, x, hn, O1, S.mono e1, hi, r.mono e1.g, P1⟩
    | false => exact iteF ⟨G1, α1, ρ, ω1, x, hn, O1, S.mono e1, hi, r.mono e1.g, P1⟩
  | _ => exact P1.elim
theorem dxa_nil : DxA X nms i [] (fun _ => aNil) := by
  intro ad oe cls d pn hz hf
  exact ⟨fun pos pins st σ H Q I ⟨G, α, ρ, ω, x, hn, O, S, hi, r, P⟩ => (pa_nil (X := X.suite ad ((ad, oe) :: pn))).run pos pins st σ H Q I (Post.here O .nil P)⟩
theorem dxa_cons {f : Exn → FE D} {g : Exn → FE (List SV)} (h : Dx X nms i e f) (h2 : DxA X nms i es g) (hs : starEach (e :: es) X.env = (false, eval e X.env) :: starEach es X.env := by rfl) : DxA X nms i (e :: es) (fun x => aCons (aVal (f x)) (g x)) := by
  intro ad oe cls d pn hz hf
  have q := pa_cons (X := X.suite ad ((ad, oe) :: pn)) (h ad oe cls d pn hz hf) (h2 ad oe cls d pn hz hf) hs
  refine ⟨fun pos pins st σ H Q I ⟨G, α, ρ, ω, x, hn, O, S, hi, r, P⟩ => q.run pos pins st σ H Q I ?_⟩
  unfold aCons aVal at P
  dsimp only at P
  rw [Res.bind_assoc] at P
  refine Post.step (t := tDx X.K X.mg nms i f ad cls d σ H) (R := RD X.K X.mg) (fun Q P => ⟨G, α, ρ, ω, x, hn, O, S, hi, r, P⟩) P fun y ω1 v1 G1 α1 H1 e1 O1 r1 P1 => ?_
  refine Post.step (t := tDxA X.K X.mg nms i g ad cls d σ H1) (fun Q P => ⟨G1, α1, ρ, ω1, x, hn, O1, S.mono e1, hi, r.mono e1.g, P⟩) P1 fun ys ω2 v2 G2 α2 H2 e2 O2 r2 P2 => ?_
  exact Post.here O2 (.cons (show RepV X.K X.mg G2 α2 (.val y) v1 from Rep.mono e2.g _ _ r1) r2) P2
theorem dx_lst {g : Exn → FE (List SV)} (h : DxA X nms i es g) : Dx X nms i (.List es pos) (fun x => eList (g x)) := by
  intro ad oe cls d pn hz hf
  have q := pe_lst (pos := pos) (h ad oe cls d pn hz hf)
  refine ⟨fun pins st σ H Q I ⟨G, α, ρ, ω, x, hn, O, S, hi, r, P⟩ => q.run pins st σ H Q I ?_⟩
  unfold eList at P
  refine Post.step (t := tDxA X.K X.mg nms i g ad cls d σ H) (fun Q P => ⟨G, α, ρ, ω, x, hn, O, S, hi, r, P⟩) P fun xs ω1 vs G1 α1 H1 e1 O1 r1 P1 => ?_
  obtain ⟨d, e2, P2⟩ := P1.lift
  split at e2
  · rename_i hl
    cases q : allD xs with
    | none => rw [q] at e2; cases e2
    | some ds =>
      rw [q] at e2; cases e2
      have hr := allD_reps q r1
      refine ⟨by rw [lim_eq, ← RepVs.length r1]; exact hl, fun p hp => ?_⟩
      exact Post.grow O1 (Grow.put O1.sub hp) (rep_newL (H := H1) (O1.sub.free hp) hr) P2
  · cases e2
theorem su_set {j : Nat} {y : Str} {f : Exn → FE D} {p' : Pos} (h : Dx X nms i e f) (hN : X.N.Nodup) (hj : X.N[j]? = some y := by rfl) (hx : Loc X.env.scope y := by first | exact Or.inl rfl | exact Or.inr rfl) (hs : swapsWith e (some (.Name y p')) pos.line X.env = pure false := by rfl)
    (hw : X.fn y = true ∨ X.env.scope.names.lookup y = some .local := by first | exact .inl rfl | exact .inr rfl) : SuOk X nms i [.Assign [.Name y p'] e pos] (fun x => sSet j (f x)) := by
  intro ad oe cls d pn hz hf
  have q := pss_one (ps_set (X := X.suite ad ((ad, oe) :: pn)) (pos := pos) (pos' := p') hN hj hx (h ad oe cls d pn hz hf) hs hw)
  refine ⟨fun pins st σ H E I ⟨G, α, ρ, ω, x, hn, O, S, hi, r, P⟩ => q.run pins st σ H E I ?_⟩
  refine PostS.step S (t := tDx X.K X.mg nms i f ad cls d σ H) (fun Q P => ⟨G, α, ρ, ω, x, hn, O, S, hi, r, P⟩) P fun y ω1 v1 G1 α1 H1 e1 O1 r1 P1 => ?_
  exact P1.here_nx O1 ((S.mono e1).set j (x := .val y) r1)
end
end Dl
namespace Dl
open PySem L2
end Dl
namespace Dl
open PySem L2
section
variable {X : Cx} {W : WX} {pos : Pos}
def sPar3 (i j l : Nat) (f : FE (List SV)) : FS := fun ρ ω => (f ρ ω).out ρ fun xs ω1 => match xs with
  | [x, y, z] => .next (((ρ.set i (some x)).set j (some y)).set l (some z)) ω1
  | _ => .stuck
def eNewL (g : FE (List SV)) : FE SV := fun ρ ω => (g ρ ω).bind fun xs ω1 => match allD xs with
  | some ds => if xs.length ≤ lim then .ok (.own ω1.length) (ω1 ++ [some (.lst ds)]) else .stuck
  | none => .stuck
end
end Dl
namespace Dl
open PySem L2
def oexB (K : PySem.W.Frag) (C : Addr) : Bool := match K.lookup C with
  | some ⟨.type "type", _, .cls cd, sl⟩ => (match cd.mro, sl.toList with
    | .ref C' :: bm, [_, _, _, _, some (.builtin n), _] => C' == C && (n == "ValueError.__new__" && (!cd.hasDel && (cd.hasDict && PySem.HandSPX.refsVE bm)))
    | _, _ => false)
  | _ => false
theorem oexB_ok {K : PySem.W.Frag} {C : Addr} (h : oexB K C = true) : ∃ nm q N bs bm sn sub ab col dd k0 k1 k2 k3 k5, K.lookup C = some (excClassObj nm q C N bs bm true sn sub ab col dd k0 k1 k2 k3 k5 "ValueError.__new__") ∧ PySem.HandSPX.refsVE bm = true := by
  unfold oexB at h
  split at h
  · rename_i dd cd sl ho
    split at h
    · rename_i C' bm k0 k1 k2 k3 n k5 hm hs
      simp only [Bool.and_eq_true, beq_iff_eq, Bool.not_eq_true'] at h
      obtain ⟨rfl, rfl, hdel, hdct, hr⟩ := h
      obtain ⟨nm, bs, mro, ns, qn, hd, sn, sub, ab, col, del⟩ := cd
      dsimp only at hm hdel hdct
      subst hm hdel hdct
      have hsl : sl = #[k0, k1, k2, k3, some (.builtin "ValueError.__new__"), k5] := by
        obtain ⟨l⟩ := sl
        simp only at hs
        rw [hs]
      subst hsl
      exact ⟨nm, qn, ns, bs, bm, sn, sub, ab, col, dd, k0, k1, k2, k3, k5, ho, hr⟩
    · cases h
  · cases h
theorem isFn_ty {K : PySem.W.Frag} {v : Value} (h : PySem.W.isFn K v = true) : PySem.W.typeIn K v = some (.type "function") := beq_iff_eq.mp h
end Dl
namespace Dl
open PySem L2
section
variable {d x y : D} {ds es : List D} {ρ : Rho} {ω : Om} {i j k : Nat}
theorem tup_0 : tupR (some ds) 0 = some (.tup ds) := tupR_run (by decide)
theorem lst_0 : lstR (some ds) 0 = some (.lst ds) := lstR_run (by decide)
theorem tup_1 : tupR (some ds) 1 = some (.tup ds) := tupR_run (by decide)
theorem lst_1 : lstR (some ds) 1 = some (.lst ds) := lstR_run (by decide)
theorem tup_2 : tupR (some ds) 2 = some (.tup ds) := tupR_run (by decide)
theorem lst_2 : lstR (some ds) 2 = some (.lst ds) := lstR_run (by decide)
theorem tup_3 : tupR (some ds) 3 = some (.tup ds) := tupR_run (by decide)
theorem lst_3 : lstR (some ds) 3 = some (.lst ds) := lstR_run (by decide)
theorem tup_4 : tupR (some ds) 4 = some (.tup ds) := tupR_run (by decide)
theorem lst_4 : lstR (some ds) 4 = some (.lst ds) := lstR_run (by decide)
theorem tup_5 : tupR (some ds) 5 = some (.tup ds) := tupR_run (by decide)
theorem lst_5 : lstR (some ds) 5 = some (.lst ds) := lstR_run (by decide)
theorem tup_6 : tupR (some ds) 6 = some (.tup ds) := tupR_run (by decide)
theorem lst_6 : lstR (some ds) 6 = some (.lst ds) := lstR_run (by decide)
theorem tup_7 : tupR (some ds) 7 = some (.tup ds) := tupR_run (by decide)
theorem lst_7 : lstR (some ds) 7 = some (.lst ds) := lstR_run (by decide)
theorem tup_8 : tupR (some ds) 8 = some (.tup ds) := tupR_run (by decide)
theorem lst_8 : lstR (some ds) 8 = some (.lst ds) := lstR_run (by decide)
theorem tup_9 : tupR (some ds) 9 = some (.tup ds) := tupR_run (by decide)
theorem lst_9 : lstR (some ds) 9 = some (.lst ds) := lstR_run (by decide)
theorem tup_10 : tupR (some ds) 10 = some (.tup ds) := tupR_run (by decide)
theorem lst_10 : lstR (some ds) 10 = some (.lst ds) := lstR_run (by decide)
theorem tup_11 : tupR (some ds) 11 = some (.tup ds) := tupR_run (by decide)
theorem lst_11 : lstR (some ds) 11 = some (.lst ds) := lstR_run (by decide)
theorem tup_12 : tupR (some ds) 12 = some (.tup ds) := tupR_run (by decide)
theorem lst_12 : lstR (some ds) 12 = some (.lst ds) := lstR_run (by decide)
theorem new_0 : newR (some ds) 0 i ρ ω = .next (ρ.set i (some (.own ω.length))) (ω ++ [some (.lst ds)]) := newR_run (by decide)
theorem new_1 : newR (some ds) 1 i ρ ω = .next (ρ.set i (some (.own ω.length))) (ω ++ [some (.lst ds)]) := newR_run (by decide)
theorem new_2 : newR (some ds) 2 i ρ ω = .next (ρ.set i (some (.own ω.length))) (ω ++ [some (.lst ds)]) := newR_run (by decide)
theorem new_3 : newR (some ds) 3 i ρ ω = .next (ρ.set i (some (.own ω.length))) (ω ++ [some (.lst ds)]) := newR_run (by decide)
theorem new_4 : newR (some ds) 4 i ρ ω = .next (ρ.set i (some (.own ω.length))) (ω ++ [some (.lst ds)]) := newR_run (by decide)
theorem new_5 : newR (some ds) 5 i ρ ω = .next (ρ.set i (some (.own ω.length))) (ω ++ [some (.lst ds)]) := newR_run (by decide)
theorem sRaise_run (c : Str) : sRaise c ρ ω = .exc ⟨c, []⟩ ρ ω := rfl
def raiseIR (c : Str) (fls : List Str) (ρ : Rho) (ω : Om) : Option (List D) → Out
  | some ds => if ds.length = fls.length then .exc ⟨c, (fls.zip ds).reverse⟩ ρ ω else .stuck
  | none => .stuck
theorem sRaiseI_run (c : Str) (fls : List Str) (g : FE (List SV)) : sRaiseI c fls g ρ ω = outL (g ρ ω) ρ (k := ⟨fun xs ω1 => raiseIR c fls ρ ω1 (allD xs)⟩) := by
  unfold sRaiseI outL raiseIR
  cases g ρ ω <;> rfl
theorem raiseI_run1 (c f : Str) : raiseIR c [f] ρ ω (some [d]) = .exc ⟨c, [(f, d)]⟩ ρ ω := rfl
theorem raiseI_run2 (c f g : Str) : raiseIR c [f, g] ρ ω (some [d, x]) = .exc ⟨c, [(g, x), (f, d)]⟩ ρ ω := rfl
theorem sTry_run (nms : List Str) (b : FS) (hs : List (Str × (Exn → FS))) : sTry nms i b hs ρ ω = tryO nms i hs (b ρ ω) := rfl
section
variable {nms : List Str} {hs : List (Str × (Exn → FS))}
theorem tryO_next : tryO nms i hs (.next ρ ω) = .next ρ ω := rfl
theorem tryO_ret {v : SV} : tryO nms i hs (.ret v ω) = .ret v ω := rfl
theorem tryO_exc {c : Str} {fs : List (Str × D)} (h : nms.contains c = true) (hi : i < ρ.length) : tryO nms i hs (.exc ⟨c, fs⟩ ρ ω) = tryH i ⟨c, fs⟩ ρ ω hs := by
  unfold tryO; dsimp only; rw [if_pos ⟨h, hi⟩]
theorem tryH_yes {c e : Str} {fs : List (Str × D)} {f : Exn → FS} (h : subX c e = true) : tryH i ⟨c, fs⟩ ρ ω ((e, f) :: hs) = unbind i (f ⟨c, fs⟩ (ρ.set i none) ω) := by
  unfold tryH; rw [if_pos h]
theorem tryH_no {c e : Str} {fs : List (Str × D)} {f : Exn → FS} (h : subX c e = false) : tryH i ⟨c, fs⟩ ρ ω ((e, f) :: hs) = tryH i ⟨c, fs⟩ ρ ω hs := by
  conv => lhs; unfold tryH
  rw [if_neg (by rw [h]; decide)]
theorem tryH_nil {e : Exn} : tryH i e ρ ω [] = .exc e ρ ω := rfl
theorem unbind_next : unbind i (.next ρ ω) = .next (ρ.set i none) ω := rfl
theorem unbind_ret {v : SV} : unbind i (.ret v ω) = .ret v ω := rfl
end
theorem eIsx_run (s : Str) (e : Exn) : eIsx s e ρ ω = .ok (.bl (subX e.cls s)) ω := rfl
theorem eXf_run {c f : Str} {fs : List (Str × D)} : eXf c f ⟨c, fs⟩ ρ ω = Res.lift (fs.lookup f) ω := by unfold eXf; rw [if_pos rfl]
def par3R (i j l : Nat) (ρ : Rho) (ω : Om) : List SV → Out
  | [x, y, z] => .next (((ρ.set i (some x)).set j (some y)).set l (some z)) ω
  | _ => .stuck
theorem sPar3_run {l : Nat} (f : FE (List SV)) : sPar3 i j l f ρ ω = outL (f ρ ω) ρ (k := ⟨fun xs ω1 => par3R i j l ρ ω1 xs⟩) := by
  unfold sPar3 outL
  cases f ρ ω with
  | stuck => rfl
  | exc _ _ => rfl
  | ok xs ω1 =>
    show (match xs with | [x, y, z] => _ | _ => _) = par3R i j l ρ ω1 xs
    unfold par3R
    rfl
theorem par3R_run {l : Nat} (x y z : SV) : par3R i j l ρ ω [x, y, z] = .next (((ρ.set i (some x)).set j (some y)).set l (some z)) ω := rfl
def newLR (n : Nat) (ω : Om) : Option (List D) → Res SV
  | some ds => if n ≤ lim then .ok (.own ω.length) (ω ++ [some (.lst ds)]) else .stuck
  | none => .stuck
theorem eNewL_run (g : FE (List SV)) : eNewL g ρ ω = bindL (g ρ ω) (k := ⟨fun xs ω1 => newLR xs.length ω1 (allD xs)⟩) := by
  unfold eNewL bindL newLR
  cases g ρ ω <;> rfl
theorem newLR_run {n : Nat} (h : n ≤ lim) : newLR n ω (some ds) = .ok (.own ω.length) (ω ++ [some (.lst ds)]) := by unfold newLR; dsimp only; rw [if_pos h]
theorem newLR_0 : newLR 0 ω (some ds) = .ok (.own ω.length) (ω ++ [some (.lst ds)]) := newLR_run (by decide)
theorem newLR_1 : newLR 1 ω (some ds) = .ok (.own ω.length) (ω ++ [some (.lst ds)]) := newLR_run (by decide)
end
section
variable {tg : FG} {b : FS} {d : D} {ds : List D} {ρ ρ1 ρ2 : Rho} {ω ω2 : Om}
theorem forL_next (h : tg d ρ = some ρ1) (h2 : b ρ1 ω = .next ρ2 ω2) : forL tg b (d :: ds) ρ ω = forL tg b ds ρ2 ω2 := by
  conv => lhs; unfold forL
  rw [h]; dsimp only; rw [h2]
theorem forL_exc {x : Exn} (h : tg d ρ = some ρ1) (h2 : b ρ1 ω = .exc x ρ2 ω2) : forL tg b (d :: ds) ρ ω = .exc x ρ2 ω2 := by
  conv => lhs; unfold forL
  rw [h]; dsimp only; rw [h2]
end
end Dl
namespace Dl
open PySem L2
mutual
/-- v is the key k, in the abstract heap -/
inductive NIs (K : PySem.W.Frag) (H : Hp) : NestedKey → V → Prop
  | bool {b : Bool} : NIs K H (.num (if b = true then 1 else 0)) (.bl b)
  | int (i : Int) : NIs K H (.num i) (.int i)
  | tup {a : Addr} {vs : List V} {ks : List NestedKey} (h : SqT K H a vs) (r : NAll K H ks vs) : NIs K H (.tup ks) (.ref a)
inductive NAll (K : PySem.W.Frag) (H : Hp) : List NestedKey → List V → Prop
  | nil : NAll K H [] []
  | cons {k : NestedKey} {v : V} {ks : List NestedKey} {vs : List V} (h : NIs K H k v) (r : NAll K H ks vs) : NAll K H (k :: ks) (v :: vs)
end
section
variable {X : Cx} {pins : List (Addr × Obj)} {σ : St} {H : Hp} {s : Shared}
mutual
theorem NIs.real (I : Inv X pins σ H s) : ∀ (k : NestedKey) (v : V) (u : Value), NIs X.K H k v → RelV v u → NestedIs s.heap k u
  | .num _, _, u, .bool, r => by cases (show u = Value.bool _ from r); exact .bool rfl
  | .num _, _, u, .int i, r => by obtain ⟨t, rfl⟩ := (show ∃ t, u = Value.int i t from r); exact .int i t
  | .tup ks, _, u, .tup (a := a) h q, r => by
    cases (show u = Value.ref a from r)
    obtain ⟨its, rv, ⟨o, ho, hc, n, hd⟩, _⟩ := I.tuple h
    exact .tup ho hc hd (by simpa using NAll.real I ks _ its q rv)
theorem NAll.real (I : Inv X pins σ H s) : ∀ (ks : List NestedKey) (vs : List V) (us : List Value), NAll X.K H ks vs → Vals vs us → NestedAll s.heap ks us
  | [], _, us, .nil, r => by cases r; exact .nil
  | k :: ks, _, us, .cons h q, r => by
    cases r with
    | cons r1 r2 => exact .cons (NIs.real I k _ _ h r1) (NAll.real I ks _ _ q r2)
end
end
section
variable {K : PySem.W.Frag} {mg : MG} {G H : Hp}
mutual
theorem rep_nis (s : Same G H) : ∀ (n : Nat) (d : D) (v : V), keyOk n d = true → Rep K mg G d v → NIs K H (nk d) v ∧ (nk d).depth ≤ n
  | n, .int i, v, h, r => by rw [rep_int] at r; subst r; unfold nk; exact ⟨.int i, by unfold NestedKey.depth; omega⟩
  | n, .bl b, v, h, r => by rw [rep_bl] at r; subst r; unfold nk; exact ⟨.bool, by unfold NestedKey.depth; omega⟩
  | n + 1, .tup ds, v, h, r => by
    rw [rep_tup] at r
    obtain ⟨a, vs, rfl, q, r⟩ := r
    unfold keyOk at h
    obtain ⟨h1, h2⟩ := reps_nis s n ds vs h r
    unfold nk
    exact ⟨.tup (Same.sqT s q) h1, by unfold NestedKey.depth; omega⟩
  | 0, .tup ds, v, h, r => by unfold keyOk at h; cases h
  | n, .non, v, h, r => by unfold keyOk at h; cases h
  | n, .str _, v, h, r => by unfold keyOk at h; cases h
  | n, .lst _, v, h, r => by unfold keyOk at h; cases h
  | n, .obj _ _, v, h, r => by unfold keyOk at h; cases h
  | n, .dcK _, v, h, r => by unfold keyOk at h; cases h
  | n, .dcN _, v, h, r => by unfold keyOk at h; cases h
theorem reps_nis (s : Same G H) : ∀ (n : Nat) (ds : List D) (vs : List V), keyOk.keyOks n ds = true → Reps K mg G ds vs → NAll K H (nk.nks ds) vs ∧ NestedKey.depthAll (nk.nks ds) ≤ n
  | n, [], vs, h, r => by rw [reps_nil] at r; subst r; unfold nk.nks; exact ⟨.nil, by unfold NestedKey.depthAll; omega⟩
  | n, d :: ds, vs, h, r => by
    rw [reps_cons] at r
    obtain ⟨v, r', rfl, r1, r2⟩ := r
    unfold keyOk.keyOks at h
    obtain ⟨h1, h2⟩ := Bool.and_eq_true_iff.mp h
    obtain ⟨a1, b1⟩ := rep_nis s n d v h1 r1
    obtain ⟨a2, b2⟩ := reps_nis s n ds r' h2 r2
    unfold nk.nks
    exact ⟨.cons a1 a2, by unfold NestedKey.depthAll; omega⟩
end
end
mutual
theorem hash_key (w : World) : ∀ (n : Nat) (d : D), keyOk n d = true → (nk d).hash w = hashN (nk d)
  | n, .int i, h => by unfold nk hashN NestedKey.hash; rfl
  | n, .bl b, h => by unfold nk hashN NestedKey.hash; rfl
  | n + 1, .tup ds, h => by
    unfold keyOk at h
    unfold nk hashN NestedKey.hash
    rw [hash_keys w n ds h]
  | 0, .tup ds, h => by unfold keyOk at h; cases h
  | n, .non, h => by unfold keyOk at h; cases h
  | n, .str _, h => by unfold keyOk at h; cases h
  | n, .lst _, h => by unfold keyOk at h; cases h
  | n, .obj _ _, h => by unfold keyOk at h; cases h
  | n, .dcK _, h => by unfold keyOk at h; cases h
  | n, .dcN _, h => by unfold keyOk at h; cases h
theorem hash_keys (w : World) : ∀ (n : Nat) (ds : List D), keyOk.keyOks n ds = true → NestedKey.hashes w (nk.nks ds) = hashNs (nk.nks ds)
  | n, [], h => by unfold nk.nks hashNs NestedKey.hashes; rfl
  | n, d :: ds, h => by
    unfold keyOk.keyOks at h
    obtain ⟨h1, h2⟩ := Bool.and_eq_true_iff.mp h
    unfold nk.nks hashNs NestedKey.hashes
    rw [hash_key w n d h1, hash_keys w n ds h2]
end
end Dl
namespace Dl
open PySem L2
abbrev NEs := List (NestedKey × Addr × V)
abbrev NRel : NEs → List (NestedKey × Addr × Value) → Prop := Paired fun e x => e.1 = x.1 ∧ e.2.1 = x.2.1 ∧ RelV e.2.2 x.2.2
def nval (es : NEs) (k : NestedKey) : Option V := (es.find? fun e => decide (e.1 = k)).map (·.2.2)
def nput (es : NEs) (k : NestedKey) (b : Addr) (v : V) : NEs := if (nval es k).isSome = true then es.map (fun e => if e.1 = k then (e.1, e.2.1, v) else e) else es ++ [(k, b, v)]
structure NOk (K : PySem.W.Frag) (H : Hp) (k : NestedKey) (b : Addr) : Prop where
  is : NIs K H k (.ref b)
  dp : k.depth ≤ 8
  hs : ∀ w, k.hash w = hashN k
theorem NRel.val : ∀ {es : NEs} {xs : List (NestedKey × Addr × Value)} (k : NestedKey), NRel es xs → RelO (nval es k) ((atKey xs k).map (·.2))
  | _, _, k, .nil => trivial
  | e :: es, x :: xs, k, .cons r t => by
    have ih := NRel.val k t
    unfold nval atKey at ih ⊢
    rw [List.find?_cons, List.find?_cons, ← r.1]
    by_cases h : e.1 = k
    · simp only [decide_eq_true h]; exact r.2.2
    · simp only [decide_eq_false h]; exact ih
theorem NRel.map {k : NestedKey} {v : V} {u : Value} (rv : RelV v u) : ∀ {es : NEs} {xs : List (NestedKey × Addr × Value)}, NRel es xs → NRel (es.map fun e => if e.1 = k then (e.1, e.2.1, v) else e) (xs.map (putAt k u))
  | _, _, .nil => .nil
  | e :: es, x :: xs, .cons r t => by
    refine .cons ?_ (NRel.map rv t)
    unfold putAt
    rw [← r.1]
    dsimp only
    by_cases h : e.1 = k
    · rw [if_pos h, if_pos h]; exact ⟨rfl, r.2.1, rv⟩
    · rw [if_neg h, if_neg h]; exact r
theorem Paired.snoc {α β : Type} {F : α → β → Prop} {a : α} {b : β} (h : F a b) : ∀ {l : List α} {m : List β}, Paired F l m → Paired F (l ++ [a]) (m ++ [b])
  | _, _, .nil => .cons h .nil
  | _, _, .cons r t => .cons r (Paired.snoc h t)
theorem isSome_rel {o : Option V} {u : Option Value} (r : RelO o u) : o.isSome = u.isSome := RelO.isSome_eq r
theorem NRel.put {es : NEs} {xs : List (NestedKey × Addr × Value)} (r : NRel es xs) (k : NestedKey) (b : Addr) {v : V} {u : Value} (rv : RelV v u) : NRel (nput es k b v) (storedH xs k b u) := by
  have h := isSome_rel (r.val k)
  rw [Option.isSome_map] at h
  unfold nput storedH
  rw [h]
  cases (atKey xs k).isSome with
  | true => exact r.map rv
  | false => exact r.snoc ⟨rfl, rfl, rv⟩
theorem NRel.keys : ∀ {es : NEs} {xs : List (NestedKey × Addr × Value)}, NRel es xs → es.map (·.1) = xs.map (·.1)
  | _, _, .nil => rfl
  | e :: es, x :: xs, .cons r t => by rw [List.map_cons, List.map_cons, r.1, NRel.keys t]
section
variable {X : Cx} {pins : List (Addr × Obj)} {σ : St} {H : Hp} {s : Shared} {a b : Addr} {ep : Nat} {es : NEs} {k : NestedKey}
theorem NOk.key (I : Inv X pins σ H s) (h : NOk X.K H k b) : (nestedKind X.prog X.w).is s.heap k b := ⟨h.is.real I k _ _ rfl, h.dp⟩
theorem n_real (I : Inv X pins σ H s) (e : H a = some (dnO a ep es)) (ok : ∀ x ∈ es, NOk X.K H x.1 x.2.1) :
    ∃ (xs : List (NestedKey × Addr × Value)) (o : Obj) (ens : Array DictEntry), NRel es xs ∧ (a == sysModules) = false ∧ xs.length ≤ sizeLine ∧ s.heap.get? a = some o ∧ o.ExactDict ∧ o.data = .dict ens ep ∧ s.heap.DictOfH (nestedKind X.prog X.w) a xs ∧ ens.toList = xs.map (entryOfKey (nestedKind X.prog X.w)) := by
  obtain ⟨⟨hs, hl, nd, xs, r, o, ens, ho, hx, hd, he⟩, _, _⟩ := (I.hok a _ e : ObjOk X.prog X.w H s.heap a (dnO a ep es))
  have memx : ∀ {es : NEs} {xs : List (NestedKey × Addr × Value)}, NRel es xs → ∀ x ∈ xs, ∃ y ∈ es, y.1 = x.1 ∧ y.2.1 = x.2.1 := by
    intro es xs r
    induction r with
    | nil => intro x hx; cases hx
    | cons r t ih =>
      intro x hx
      rcases List.mem_cons.mp hx with rfl | hx
      · exact ⟨_, List.mem_cons_self, r.1, r.2.1⟩
      · obtain ⟨y, hy, q⟩ := ih x hx
        exact ⟨y, List.mem_cons_of_mem _ hy, q⟩
  have keys : ∀ x ∈ xs, (nestedKind X.prog X.w).is s.heap x.1 x.2.1 ∧ (nestedKind X.prog X.w).hash x.1 = hashN x.1 := fun x hx => by
    obtain ⟨y, hy, q1, q2⟩ := memx r x hx
    rw [← q1, ← q2]
    exact ⟨(ok y hy).key I, (ok y hy).hs X.w⟩
  have nd' : (xs.map (·.1)).Nodup := by
    rw [← NRel.keys r]; exact nd
  have he' : ens.toList = xs.map (entryOfKey (nestedKind X.prog X.w)) := by
    rw [he]
    apply List.map_congr_left
    intro x hx
    unfold entryOfKey
    rw [(keys x hx).2]
  exact ⟨xs, o, ens, r, hs, by rw [← Paired.length r]; exact hl, ho, hx, hd, ⟨o, ens, ep, ho, hx, hd, he', fun x hx => (keys x hx).1, nd'⟩, he'⟩
theorem room8 {A : Around} (hu : A.units + 20 < cLine) : (nestedKind X.prog X.w).room A.in1 := by
  show A.units + 1 + 8 < cLine
  omega
theorem nput_len (es : NEs) (k : NestedKey) (b : Addr) (v : V) : (nput es k b v).length ≤ es.length + 1 := by
  unfold nput; split <;> simp
theorem nput_keys (es : NEs) (k : NestedKey) (b : Addr) (v : V) (h : (es.map (·.1)).Nodup) : ((nput es k b v).map (·.1)).Nodup := by
  unfold nput
  split
  · rw [List.map_map]
    have : ((fun e : NestedKey × Addr × V => e.1) ∘ fun e => if e.1 = k then (e.1, e.2.1, v) else e) = (·.1) := by
      funext e; simp only [Function.comp]; split <;> rfl
    rw [this]; exact h
  · rename_i hn
    rw [List.map_append, List.nodup_append]
    refine ⟨h, by simp, fun x hx y hy => ?_⟩
    simp at hy; subst hy
    intro e; subst e
    apply hn
    obtain ⟨p, hp, e⟩ := List.mem_map.mp hx
    unfold nval
    rw [Option.isSome_map, List.find?_isSome]
    exact ⟨p, hp, decide_eq_true e⟩
theorem nput_mem {es : NEs} {v : V} {x : NestedKey × Addr × V} (h : x ∈ nput es k b v) : (∃ y ∈ es, y.1 = x.1 ∧ y.2.1 = x.2.1) ∨ (x.1 = k ∧ x.2.1 = b) := by
  unfold nput at h
  split at h
  · obtain ⟨y, hy, rfl⟩ := List.mem_map.mp h
    refine .inl ⟨y, hy, ?_⟩
    split <;> exact ⟨rfl, rfl⟩
  · rcases List.mem_append.mp h with h | h
    · exact .inl ⟨x, h, rfl, rfl⟩
    · simp at h; subst h; exact .inr ⟨rfl, rfl⟩
variable {A : Around} {E : Value → Shared → Prop}
theorem n_in {Q : Value → Shared → Prop} (hu : A.units + 20 < cLine) (I : Inv X pins σ H s) (e : H a = some (dnO a ep es)) (ok : ∀ x ∈ es, NOk X.K H x.1 x.2.1) (hk : NOk X.K H k b) (h : ∀ s', Inv X pins σ H s' → Q (.bool (nval es k).isSome) s') :
    wpAny (model X.prog X.w) A (compareOp .In (.ref b) (.ref a)) Q E s := by
  obtain ⟨xs, o, ens, rel, hs, hl, ho, hx, hd, dd, _⟩ := n_real I e ok
  refine in_keyed (room8 hu) (hk.key I) hs ⟨xs, dd, rfl⟩ ?_
  rw [valueAt_pairsH, ← isSome_rel (rel.val k)]
  exact h _ (I.tok _)
theorem dn_ok {P : Program} {w : World} {H' : Hp} {h' : Heap} {xs : List (NestedKey × Addr × Value)} {o : Obj} {ens : Array DictEntry} (hs : (a == sysModules) = false) (hl : es.length ≤ sizeLine) (nd : (es.map (·.1)).Nodup) (rel : NRel es xs) (hh : ∀ x ∈ es, ∀ w, x.1.hash w = hashN x.1)
    (ho : h'.get? a = some o) (hx : o.ExactDict) (hd : o.data = .dict ens ep) (he : ens.toList = xs.map (entryOfKey (nestedKind P w))) : ObjOk P w H' h' a (dnO a ep es) := by
  refine ⟨⟨hs, hl, nd, xs, rel, o, ens, ho, hx, hd, ?_⟩, ⟨o, ho⟩, fun h1 h2 q k => ?_⟩
  · rw [he]
    have memx : ∀ {es : NEs} {xs : List (NestedKey × Addr × Value)}, NRel es xs → (∀ x ∈ es, ∀ w, x.1.hash w = hashN x.1) → ∀ x ∈ xs, x.1.hash w = hashN x.1 := by
      intro es xs r
      induction r with
      | nil => intro _ x hx; cases hx
      | cons r t ih =>
        intro hh x hx
        rcases List.mem_cons.mp hx with rfl | hx
        · rw [← r.1]; exact hh _ List.mem_cons_self w
        · exact ih (fun y hy => hh y (List.mem_cons_of_mem _ hy)) x hx
    apply List.map_congr_left
    intro x hx
    unfold entryOfKey
    rw [show (nestedKind P w).hash x.1 = hashN x.1 from memx rel hh x hx]
  · obtain ⟨q1, q2, q3, ys, q4, o', en', q5, q6⟩ := q
    exact ⟨q1, q2, q3, ys, q4, o', en', k _ q5, q6⟩
theorem n_setItem {Q : Unit → Shared → Prop} {v : V} {r : Value} (hu : A.units + 20 < cLine) (I : Inv X pins σ H s) (e : H a = some (dnO a ep es)) (ok : ∀ x ∈ es, NOk X.K H x.1 x.2.1) (hk : NOk X.K H k b) (hl : es.length < sizeLine) (rv : RelV v r)
    (h : ∀ ep' s', Inv X pins σ (L2.upd H a (dnO a ep' (nput es k b v))) s' → Q () s') : wpAny (model X.prog X.w) A (setItem (.ref a) (.ref b) r) Q E s := by
  obtain ⟨xs, o, ens, rel, hs, hl', ho, hx, hd, dd, _⟩ := n_real I e ok
  have nd : (es.map (·.1)).Nodup := ((I.hok a _ e : ObjOk X.prog X.w H s.heap a (dnO a ep es)).1).2.2.1
  refine wpAny_setItem_heap (hsz := hl') (room8 hu) (hk.key I) dd fun h' dd' sb => ?_
  obtain ⟨q, ens', ep', hq, h2, h3, h4, _, h5⟩ := dd'
  refine h ep' _ (d_write I (by rw [e]; exact True.intro) sb ⟨q, hq⟩ ?_)
  refine dn_ok hs (by have := nput_len es k b v; omega) (nput_keys es k b v nd) (rel.put k b rv) (fun x hx' w => ?_) hq h2 h3 h4
  rcases nput_mem hx' with ⟨y, hy, q1, _⟩ | ⟨q1, _⟩
  · rw [← q1]; exact (ok y hy).hs w
  · rw [q1]; exact hk.hs w
end
end Dl
namespace Dl
open PySem L2
abbrev KVs := List (D × D)
def dnGet (kvs : KVs) (k : NestedKey) : Option D := (kvs.find? fun p => decide (nk p.1 = k)).map (·.2)
def dnPut (kvs : KVs) (k v : D) : KVs := if (dnGet kvs (nk k)).isSome = true then kvs.map (fun p => if nk p.1 = nk k then (p.1, v) else p) else kvs ++ [(k, v)]
section
variable {K : PySem.W.Frag} {mg : MG} {G H : Hp}
theorem repN_ok (s : Same G H) : ∀ {kvs : KVs} {es : NEs}, RepN K mg G kvs es → ∀ x ∈ es, NOk K H x.1 x.2.1
  | [], es, r, x, hx => by rw [repN_nil] at r; subst r; cases hx
  | (k, d) :: kvs, es, r, x, hx => by
    rw [repN_cons] at r
    obtain ⟨b, v, r', rfl, ok, r1, r2, r3⟩ := r
    rcases List.mem_cons.mp hx with rfl | hx
    · obtain ⟨h1, h2⟩ := rep_nis s 8 k _ ok r1
      exact ⟨h1, h2, fun w => hash_key w 8 k ok⟩
    · exact repN_ok s r3 x hx
theorem repN_len : ∀ {kvs : KVs} {es : NEs}, RepN K mg G kvs es → es.length = kvs.length
  | [], es, r => by rw [repN_nil] at r; subst r; rfl
  | (k, d) :: kvs, es, r => by
    rw [repN_cons] at r
    obtain ⟨b, v, r', rfl, ok, r1, r2, r3⟩ := r
    rw [List.length_cons, List.length_cons, repN_len r3]
theorem repN_val (k : NestedKey) : ∀ {kvs : KVs} {es : NEs}, RepN K mg G kvs es → match dnGet kvs k with
    | none => nval es k = none
    | some d => ∃ v, nval es k = some v ∧ Rep K mg G d v
  | [], es, r => by rw [repN_nil] at r; subst r; rfl
  | (q, d) :: kvs, es, r => by
    rw [repN_cons] at r
    obtain ⟨b, v, r', rfl, ok, r1, r2, r3⟩ := r
    have ih := repN_val k r3
    unfold dnGet nval at ih ⊢
    rw [List.find?_cons, List.find?_cons]
    by_cases h : nk q = k
    · simp only [decide_eq_true h]; exact ⟨v, rfl, r2⟩
    · simp only [decide_eq_false h]; exact ih
theorem repN_some (k : NestedKey) {kvs : KVs} {es : NEs} (r : RepN K mg G kvs es) : (nval es k).isSome = (dnGet kvs k).isSome := by
  have h := repN_val k r
  cases q : dnGet kvs k with
  | none => rw [q] at h; dsimp only at h; rw [h]; rfl
  | some d => rw [q] at h; obtain ⟨v, h, _⟩ := h; rw [h]; rfl
theorem repN_map {k d : D} {v : V} (rv : Rep K mg G d v) : ∀ {kvs : KVs} {es : NEs}, RepN K mg G kvs es → RepN K mg G (kvs.map fun p => if nk p.1 = nk k then (p.1, d) else p) (es.map fun e => if e.1 = nk k then (e.1, e.2.1, v) else e)
  | [], es, r => by rw [repN_nil] at r; subst r; rw [List.map_nil, List.map_nil, repN_nil]
  | (q, x) :: kvs, es, r => by
    rw [repN_cons] at r
    obtain ⟨b, u, r', rfl, ok, r1, r2, r3⟩ := r
    rw [List.map_cons, List.map_cons]
    dsimp only
    by_cases h : nk q = nk k
    · rw [if_pos h, if_pos h, repN_cons]
      exact ⟨b, v, _, rfl, ok, r1, rv, repN_map rv r3⟩
    · rw [if_neg h, if_neg h, repN_cons]
      exact ⟨b, u, _, rfl, ok, r1, r2, repN_map rv r3⟩
theorem repN_snoc {k d : D} {b : Addr} {v : V} (ok : keyOk 8 k = true) (rk : Rep K mg G k (.ref b)) (rv : Rep K mg G d v) : ∀ {kvs : KVs} {es : NEs}, RepN K mg G kvs es → RepN K mg G (kvs ++ [(k, d)]) (es ++ [(nk k, b, v)])
  | [], es, r => by
    rw [repN_nil] at r; subst r
    rw [List.nil_append, List.nil_append, repN_cons]
    exact ⟨b, v, [], rfl, ok, rk, rv, repN_nil.mpr rfl⟩
  | (q, x) :: kvs, es, r => by
    rw [repN_cons] at r
    obtain ⟨c, u, r', rfl, ok', r1, r2, r3⟩ := r
    rw [List.cons_append, List.cons_append, repN_cons]
    exact ⟨c, u, _, rfl, ok', r1, r2, repN_snoc ok rk rv r3⟩
theorem repN_put {k d : D} {b : Addr} {v : V} {kvs : KVs} {es : NEs} (ok : keyOk 8 k = true) (rk : Rep K mg G k (.ref b)) (rv : Rep K mg G d v) (r : RepN K mg G kvs es) : RepN K mg G (dnPut kvs k d) (nput es (nk k) b v) := by
  unfold dnPut nput
  rw [repN_some (nk k) r]
  cases (dnGet kvs (nk k)).isSome with
  | true => exact repN_map rv r
  | false => exact repN_snoc ok rk rv r
theorem rep_key (s : Same G H) {k : D} {v : V} (ok : keyOk 8 k = true) (ht : ∃ ds, k = .tup ds) (r : Rep K mg G k v) : ∃ b, v = .ref b ∧ NOk K H (nk k) b ∧ Rep K mg G k (.ref b) := by
  obtain ⟨h1, h2⟩ := rep_nis s 8 k v ok r
  obtain ⟨ds, rfl⟩ := ht
  rw [rep_tup] at r
  obtain ⟨a, vs, rfl, q, r⟩ := r
  exact ⟨a, rfl, ⟨h1, h2, fun w => hash_key w 8 _ ok⟩, rep_tup.mpr ⟨a, vs, rfl, q, r⟩⟩
end
def isKey : D → Bool
  | .tup ds => keyOk 8 (.tup ds)
  | _ => false
theorem isKey_eq {d : D} (h : isKey d = true) : keyOk 8 d = true ∧ ∃ ds, d = .tup ds := by
  cases d with
  | tup ds => exact ⟨h, ds, rfl⟩
  | _ => cases h
structure NAt (K : PySem.W.Frag) (H : Hp) (a : Addr) (ep : Nat) (es : NEs) : Prop where
  at_ : H a = some (dnO a ep es)
  ok : ∀ x ∈ es, NOk K H x.1 x.2.1
section
variable {X : Cx} {W : WX} {o e f : Expr} {apos cpos pos : Pos} {td ty tx : TE}
def nGet (kvs : KVs) (k x : D) : Option D := if isKey k = true then some ((dnGet kvs (nk k)).getD x) else none
def asN : D → Option KVs
  | .dcN kvs => some kvs
  | _ => none
def eNGet (fd fk fx : FE D) : FE D := fun ρ ω => (fd ρ ω).bind fun d ω1 => match asN d with
  | none => .stuck
  | some kvs => (fk ρ ω1).bind fun k ω2 => (fx ρ ω2).bind fun x ω3 => Res.lift (nGet kvs k x) ω3
def ownN (ω : Om) (k : Nat) : Option KVs := match ω[k]? with
  | some (some (.dcN kvs)) => some kvs
  | _ => none
theorem ownN_eq {ω : Om} {k : Nat} {kvs : KVs} (h : ownN ω k = some kvs) : ω[k]? = some (some (.dcN kvs)) := by
  unfold ownN at h
  split at h
  · rename_i q; cases h; exact q
  · cases h
def eNGetO (i : Nat) (fk fx : FE D) : FE D := fun ρ ω => match ownK ρ i with
  | none => .stuck
  | some j => match ownN ω j with
    | none => .stuck
    | some _ => (fk ρ ω).bind fun k ω2 => (fx ρ ω2).bind fun x ω3 => match ownN ω3 j with
      | some kvs => Res.lift (nGet kvs k x) ω3
      | none => .stuck
end
def dkGet (kvs : List (Key × D)) (k : Key) : Option D := (kvs.find? fun p => decide (p.1 = k)).map (·.2)
def dkPut (kvs : List (Key × D)) (k : Key) (v : D) : List (Key × D) := if (dkGet kvs k).isSome = true then kvs.map (fun p => if p.1 = k then (p.1, v) else p) else kvs ++ [(k, v)]
def keyK : D → Option Key
  | .int i => some (.inl i)
  | .str x => some (.inr x)
  | _ => none
section
variable {K : PySem.W.Frag} {mg : MG} {G H : Hp}
theorem keyK_rep {d : D} {k : Key} {v : V} (h : keyK d = some k) (r : Rep K mg G d v) : v = kV k := by
  cases d with
  | int i => cases h; exact rep_int.mp r
  | str x => cases h; exact rep_str.mp r
  | _ => cases h
theorem repK_val (k : Key) : ∀ {kvs : List (Key × D)} {kv : List (Key × V)}, RepK K mg G kvs kv → match dkGet kvs k with
    | none => valV kv k = none
    | some d => ∃ v, valV kv k = some v ∧ Rep K mg G d v
  | [], kv, r => by rw [repK_nil] at r; subst r; rfl
  | (q, d) :: kvs, kv, r => by
    rw [repK_cons] at r
    obtain ⟨v, r', rfl, r2, r3⟩ := r
    have ih := repK_val k r3
    unfold dkGet valV at ih ⊢
    rw [List.find?_cons, List.find?_cons]
    by_cases h : q = k
    · simp only [decide_eq_true h]; exact ⟨v, rfl, r2⟩
    · simp only [decide_eq_false h]; exact ih
theorem repK_some (k : Key) {kvs : List (Key × D)} {kv : List (Key × V)} (r : RepK K mg G kvs kv) : (valV kv k).isSome = (dkGet kvs k).isSome := by
  have h := repK_val k r
  cases q : dkGet kvs k with
  | none => rw [q] at h; dsimp only at h; rw [h]; rfl
  | some d => rw [q] at h; obtain ⟨v, h, _⟩ := h; rw [h]; rfl
end
def rNIn (K : PySem.W.Frag) (neg : Bool) : R2 := fun y x H Q => ∃ a ep es k b, x = .ref a ∧ NAt K H a ep es ∧ y = .ref b ∧ NOk K H k b ∧ Q (.bl (if neg then !(nval es k).isSome else (nval es k).isSome)) H
def rKIn (neg : Bool) : R2 := fun y x H Q => ∃ a o, x = .ref a ∧ DGet H a y o ∧ Q (.bl (if neg then !o.isSome else o.isSome)) H
section
variable {X : Cx} {W : WX}
theorem op_nin (hu : X.A.units + 20 < cLine) : OpR X (compareOp .In) (rNIn X.K false) := by
  intro pins s σ H y x iv u Q I ry rx h
  obtain ⟨a, ep, es, k, b, rfl, na, rfl, hk, q⟩ := h
  cases (show iv = Value.ref b from ry)
  cases (show u = Value.ref a from rx)
  exact n_in hu I na.at_ na.ok hk fun s3 I3 => ⟨.bl (nval es k).isSome, H, I3, rfl, q⟩
theorem op_kin (hu : X.A.units + 20 < cLine) : OpR X (compareOp .In) (rKIn false) := by
  intro pins s σ H y x iv u Q I ry rx h
  obtain ⟨a, o, rfl, g, q⟩ := h
  cases (show u = Value.ref a from rx)
  exact d_in (by omega) I g ry fun s3 I3 => ⟨.bl o.isSome, H, I3, rfl, q⟩
def opIn2 (neg : Bool) (x y : D) : Option D := match y with
  | .dcN kvs => if isKey x = true then some (.bl (if neg then !(dnGet kvs (nk x)).isSome else (dnGet kvs (nk x)).isSome)) else none
  | .dcK kvs => (keyK x).map fun k => .bl (if neg then !(dkGet kvs k).isSome else (dkGet kvs k).isSome)
  | _ => opIn neg x y
theorem bop_in2 {K : PySem.W.Frag} {mg : MG} {neg : Bool} {r : R2} (B : Bop K mg r (opIn neg)) : Bop K mg (fun x y H Q => r x y H Q ∨ rNIn K neg x y H Q ∨ rKIn neg x y H Q) (opIn2 neg) := by
  intro G H x y d v1 v2 Q s e r1 r2 k
  unfold opIn2 at e
  split at e
  · rename_i kvs
    split at e
    · rename_i hk
      cases e
      obtain ⟨ok, ht⟩ := isKey_eq hk
      obtain ⟨b, rfl, hb, _⟩ := rep_key s ok ht r1
      rw [rep_dcN] at r2
      obtain ⟨a, ep, es, rfl, ha, rn⟩ := r2
      refine .inr (.inl ⟨a, ep, es, nk x, b, rfl, ⟨s _ _ ha, repN_ok s rn⟩, rfl, hb, ?_⟩)
      rw [repN_some (nk x) rn]
      exact k _ G H (Grow.refl s) (rep_bl.mpr rfl)
    · cases e
  · rename_i kvs
    cases q : keyK x with
    | none => rw [q] at e; cases e
    | some kk =>
      rw [q] at e; cases e
      rw [rep_dcK] at r2
      obtain ⟨a, kv, rfl, ha, rn⟩ := r2
      have := keyK_rep q r1
      subst this
      refine .inr (.inr ⟨a, valV kv kk, rfl, DGet.k (s _ _ ha), ?_⟩)
      rw [repK_some kk rn]
      exact k _ G H (Grow.refl s) (rep_bl.mpr rfl)
  · exact .inl (B G H x y d v1 v2 Q s e r1 r2 k)
theorem cmp_in2 (hr : Room 0 X.A) : Cmp X .In (opIn2 false) :=
  have hu : X.A.units + 20 < cLine := by have := hr.un; omega
  let ⟨r, h, B⟩ := cmp_in (X := X)
  ⟨_, h.or ((op_nin hu).or (op_kin hu)), bop_in2 B⟩
end
end Dl
namespace Dl
open PySem L2
def Itnk (K : PySem.W.Frag) (a : Addr) (ep : Nat) (es : NEs) : It :=
  ⟨fun i H => NAt K H a ep es ∧ i < es.length, fun i H v H' => H' = H ∧ ∃ k b u, es[i]? = some (k, b, u) ∧ v = .ref b, fun i H => NAt K H a ep es ∧ es.length ≤ i⟩
section
variable {X : Cx} {pins : List (Addr × Obj)} {σ : St} {H : Hp} {s : Shared} {a : Addr} {ep : Nat} {es : NEs}
theorem n_raw (I : Inv X pins σ H s) (na : NAt X.K H a ep es) : ∃ ens : Array DictEntry, (a == sysModules) = false ∧ s.heap.DictRaw a ens ep ∧ ens.size = es.length ∧ ∀ (i : Nat) (k : NestedKey) (b : Addr) (u : V), es[i]? = some (k, b, u) → ∃ hi : i < ens.size, ens[i].key = .ref b ∧ RelV u ens[i].val := by
  obtain ⟨xs, o, ens, rel, hs, hl, ho, hx, hd, dd, he⟩ := n_real I na.at_ na.ok
  have hsz : ens.size = es.length := by
    have : ens.toList.length = xs.length := by rw [he, List.length_map]
    rw [Array.length_toList] at this
    rw [this, Paired.length rel]
  refine ⟨ens, hs, ⟨o, ho, hx, hd⟩, hsz, fun i k b u hi => ?_⟩
  have hlt : i < es.length := (List.getElem?_eq_some_iff.mp hi).1
  have getx : ∀ {es : NEs} {xs : List (NestedKey × Addr × Value)}, NRel es xs → ∀ (i : Nat) (k : NestedKey) (b : Addr) (u : V), es[i]? = some (k, b, u) → ∃ v, xs[i]? = some (k, b, v) ∧ RelV u v := by
    intro es xs r
    induction r with
    | nil => intro i k b u h; simp at h
    | @cons e x es xs r t ih =>
      intro i k b u h
      cases i with
      | zero =>
        simp at h; subst h
        obtain ⟨x1, x2, x3⟩ := x
        obtain ⟨r1, r2, r3⟩ := r
        dsimp only at r1 r2 r3
        subst r1 r2
        exact ⟨x3, rfl, r3⟩
      | succ j => obtain ⟨v, h1, h2⟩ := ih j k b u (by simpa using h); exact ⟨v, by simpa using h1, h2⟩
  obtain ⟨v, h1, h2⟩ := getx rel i k b u hi
  have h3 := entry_at he i
  rw [h1] at h3
  have hi' : i < ens.size := by rw [hsz]; exact hlt
  rw [Array.getElem?_eq_getElem hi'] at h3
  have h4 := Option.some.inj h3
  exact ⟨hi', by rw [h4]; rfl, by rw [h4]; exact h2⟩
end
section
variable {P : Program} {w : World} {K : PySem.W.Frag} {a : Addr} {ep : Nat} {es : NEs} {tg : Expr}
theorem turn_nkeys (it : Addr) : Turn P w K tg (Itnk K a ep es) [it] it (fun i h => h.IsKeyIter it a i es.length ep) where
  mem := by simp
  obj := fun i h st b hb => by
    have e : b = it := by simpa using hb
    subst e
    obtain ⟨oi, e, c, dd⟩ := st
    exact ⟨oi, e, fun v z => by rw [dd] at z; cases z⟩
  keep := fun i h h' st k => st.at fun oi e => k it (by simp) oi e
  item := by
    intro X hP hw hK hc i pins s σ H E I hf st hg
    subst hP hw hK
    obtain ⟨na, hi⟩ := hg
    obtain ⟨f0, f1, f2, f3, f4, f5⟩ := hf it (by simp)
    obtain ⟨ens, hs, raw, hsz, ent⟩ := n_raw I na
    obtain ⟨⟨k, b, u⟩, hkv⟩ : ∃ p, es[i]? = some p := ⟨es[i], List.getElem?_eq_getElem hi⟩
    obtain ⟨hi', ekey, eval⟩ := ent i k b u hkv
    have st2 := st
    rw [← hsz] at st2
    refine wpAny_pyNext_keys_item_raw st2 raw hi' fun h' st' sb => ?_
    have I1 : Inv X pins σ H { s with heap := h' } := I.turned (t' := s.toks) (fun b ob hb e => (sb.2 b hb).trans e) f0 f1 f3 f4 f5
    rw [hsz] at st'
    obtain ⟨oi, e, c, dd⟩ := id st'
    exact ⟨ens[i].key, rfl, go_of (s := { s with heap := h' }) e c dd (by decide) ⟨.ref b, H, I1, by rw [ekey]; rfl, ⟨rfl, k, b, u, hkv, rfl⟩, st', fun b hb => (hf b hb).1⟩⟩
  done := by
    intro X hP hw hK hc i pins s σ H E I hf st hg
    subst hP hw hK
    obtain ⟨na, hi⟩ := hg
    obtain ⟨f0, f1, f2, f3, f4, f5⟩ := hf it (by simp)
    obtain ⟨ens, hs, raw, hsz, ent⟩ := n_raw I na
    have st2 := st
    rw [← hsz] at st2
    exact wpAny_pyNext_keys_end_raw (I.ok.hd hc) st2 raw (by rw [hsz]; exact hi) fun h' eb => ⟨rfl, I.turned (t' := s.toks) (fun b ob hb e => eb b ob hb e) f0 f1 f3 f4 f5⟩
  self := fun A i s Q E st h => by
    refine wpAny_pyIter_slot st.typeIs F.slot_dict_keyiterator_iter (wpAny_call_entry F.slot_dict_keyiterator_iter st.typeIs F.entry_dict_keyiterator_iter ?_ (F.args_dict_keyiterator_iter_1 _))
    show wpAny _ _ (ret (.ref it)) _ _ s
    exact wpAny_pure ⟨_, rfl, "dict_keyiterator", _, st.typeIs, F.slot_dict_keyiterator_next.lookup, h⟩
end
def iNKeys (K : PySem.W.Frag) (td : TE) : TI := fun σ H R => td σ H fun x H1 => ∃ a ep es, x = .ref a ∧ NAt K H1 a ep es ∧ R (Itnk K a ep es) H1
section
variable {X : Cx} {W : WX} {tg e : Expr} {td : TE} {apos cpos : Pos}
theorem pi_nkeys (he : PE X e td) : PI X tg e (iNKeys X.K td) := by
  refine ⟨fun pins s σ H R I h => ?_⟩
  refine thn (he.run pins s σ H _ I h) fun u s1 ⟨x, H1, I1, rx, d, ep, es, ex, na, q⟩ => ?_
  subst ex
  obtain rfl : u = Value.ref d := rx
  obtain ⟨ens, hs, raw, hsz, ent⟩ := n_raw I1 na
  refine wpAny_pyIter_dict_raw hs raw (pi_one (tk := s1.toks) I1 _ (turn_nkeys _) ⟨_, Heap.get?_push_size _ rfl, rfl, ?_⟩ q)
  rw [← hsz] <;> rfl
theorem repN_get {K : PySem.W.Frag} {mg : MG} {G : Hp} : ∀ {kvs : KVs} {es : NEs} {i : Nat} {p : D × D}, RepN K mg G kvs es → kvs[i]? = some p → ∃ b v, es[i]? = some (nk p.1, b, v) ∧ Rep K mg G p.1 (.ref b) ∧ Rep K mg G p.2 v
  | [], es, i, p, r, h => by simp at h
  | (k, d) :: kvs, es, 0, p, r, h => by
    rw [repN_cons] at r
    obtain ⟨b, v, r', rfl, ok, r1, r2, r3⟩ := r
    simp at h; subst h
    exact ⟨b, v, rfl, r1, r2⟩
  | (k, d) :: kvs, es, i + 1, p, r, h => by
    rw [repN_cons] at r
    obtain ⟨b, v, r', rfl, ok, r1, r2, r3⟩ := r
    obtain ⟨b', v', h1, h2⟩ := repN_get (i := i) (p := p) r3 (by simpa using h)
    exact ⟨b', v', by simpa using h1, h2⟩
def itemsD (kvs : KVs) : List D := kvs.map fun p => .tup [p.1, p.2]
theorem walk_nk {K : PySem.W.Frag} {mg : MG} {a : Addr} {ep : Nat} {es : NEs} {st : Hp → Hp → Prop} {kvs : KVs} (h : ∀ G H, Same G H → st G H → G a = some (dnO a ep es) ∧ RepN K mg G kvs es) : WalkD K mg st (Itnk K a ep es) (kvs.map (·.1)) := by
  intro i G H s q
  obtain ⟨h1, h2⟩ := h G H s q
  have na : NAt K H a ep es := ⟨s _ _ h1, repN_ok s h2⟩
  have hl := repN_len h2
  refine ⟨fun d hd => ?_, fun hl' => ⟨na, by rw [hl]; simpa using hl'⟩⟩
  rw [List.getElem?_map] at hd
  cases q1 : kvs[i]? with
  | none => rw [q1] at hd; cases hd
  | some p =>
    rw [q1] at hd; cases hd
    obtain ⟨b, v, h3, h4, h5⟩ := repN_get h2 q1
    refine ⟨⟨na, (List.getElem?_eq_some_iff.mp h3).1⟩, fun x H' y => ?_⟩
    obtain ⟨rfl, k', b', u', h6, rfl⟩ := y
    rw [h3] at h6; cases h6
    exact ⟨G, Grow.refl s, h4⟩
def itNItems : D → Option (List D)
  | .dcN kvs => some (itemsD kvs)
  | _ => none
def itNKeys : D → Option (List D)
  | .dcN kvs => some (kvs.map (·.1))
  | _ => none
theorem di_nkeys {f : FE D} (j : De X W e f) : Di X W tg e (eIt1 itNKeys f) := by
  obtain ⟨t, p, k⟩ := j
  refine ⟨_, pi_nkeys p, fun G α ρ ω σ H R O S P => ?_⟩
  refine Post.step (t := t σ H) (k G α ρ ω σ H · O S) P fun d ω1 v G1 α1 H1 e1 O1 r1 P1 => ?_
  obtain ⟨ds, e2, P2⟩ := P1.lift
  cases d with
  | dcN kvs =>
    cases e2
    have r1' : Rep X.K X.mg G1 (.dcN kvs) v := r1
    rw [rep_dcN] at r1'
    obtain ⟨a, ep, es, rfl, ha, rn⟩ := r1'
    refine ⟨a, ep, es, rfl, ⟨O1.sub _ _ ha, repN_ok O1.sub rn⟩, P2 _ G1 α1 H1 Ext.refl O1 ?_⟩
    exact walk_nk fun G' H' s' q => ⟨q _ _ ha, RepN.mono q _ _ rn⟩
  | _ => cases e2
end
end Dl
namespace Dl
open PySem L2
structure Side (K : PySem.W.Frag) (mg : MG) (G0 : Hp) (α0 : List Addr) (H0 : Hp) (p : Addr) (G : Hp) (α : List Addr) (ω : Om) (H : Hp) (o : HO) : Prop where
  ext : Ext G0 α0 H0 G α H
  own : Own K mg G α ω H
  gl : G p = none
  na : p ∉ α
  at_ : H p = some o
section
variable {K : PySem.W.Frag} {mg : MG} {G0 H0 G H G1 H1 : Hp} {α0 α α1 : List Addr} {p : Addr} {ω ω1 : Om} {o o' : HO}
theorem Side.new (O : Own K mg G α ω H) (hp : H p = none) : Side K mg G α H p G α ω (L2.upd H p o) o :=
  ⟨(Grow.side O.sub hp).ext, O.grow (Grow.side O.sub hp), O.sub.free hp, O.na hp, upd_same⟩
theorem Side.step (S : Side K mg G0 α0 H0 p G α ω H o) (e : Ext G α H G1 α1 H1) (O : Own K mg G1 α1 ω1 H1) : Side K mg G0 α0 H0 p G1 α1 ω1 H1 o := by
  refine ⟨S.ext.trans e, O, ?_, fun hm => ?_, e.keep p o S.at_ S.na⟩
  · cases q : G1 p with
    | none => rfl
    | some u =>
      rcases e.new p u q with z | z | z
      · rw [S.gl] at z; cases z
      · rw [S.at_] at z; cases z
      · exact absurd z S.na
  · obtain ⟨m, em, nm⟩ := e.pre
    rw [em] at hm
    rcases List.mem_append.mp hm with z | z
    · exact S.na z
    · have := nm p z; rw [S.at_] at this; cases this
theorem Side.set (S : Side K mg G0 α0 H0 p G α ω H o) (h0 : H0 p = none) : Side K mg G0 α0 H0 p G α ω (L2.upd H p o') o' :=
  ⟨S.ext.setL h0, S.own.setL S.gl S.na, S.gl, S.na, upd_same⟩
theorem Side.tell (S : Side K mg G0 α0 H0 p G α ω H o) (h0 : H0 p = none) : Ext G0 α0 H0 (L2.upd G p o) α H ∧ Own K mg (L2.upd G p o) α ω H := by
  have sg : Same G (L2.upd G p o) := Same.upd S.gl
  refine ⟨⟨S.ext.g.trans sg, fun a u h => ?_, S.ext.keep, S.ext.live, S.ext.pre⟩, ⟨fun b u h => ?_, S.own.len, S.own.nd, S.own.ex, fun k u a h3 h4 => ?_⟩⟩
  · by_cases z : a = p
    · subst z; exact .inr (.inl h0)
    · rw [upd_ne z] at h; exact S.ext.new a u h
  · by_cases z : b = p
    · subst z; rw [upd_same] at h; cases h; exact S.at_
    · rw [upd_ne z] at h; exact S.own.sub b u h
  · obtain ⟨q1, q2⟩ := S.own.obj k u a h3 h4
    have : a ≠ p := fun z => S.na (by rw [← z]; exact List.mem_of_getElem? h4)
    exact ⟨by rw [upd_ne this]; exact q1, q2.mono sg rfl⟩
end
theorem dn_empty {P : Program} {w : World} {H : Hp} (h : Heap) (hb : sysModules < h.objs.size) : ObjOk P w H (h.push { cls := .type "dict", data := .dict #[] }) h.objs.size (dnO h.objs.size 0 []) := by
  refine ⟨⟨beq_eq_false_iff_ne.mpr (Ne.symm (Nat.ne_of_lt hb)), Nat.zero_le _, List.nodup_nil, [], .nil, _, #[], Heap.get?_push_size _ rfl, ⟨rfl, rfl, rfl⟩, rfl, rfl⟩, ⟨_, Heap.get?_push_size _ rfl⟩, fun h1 h2 q k => ?_⟩
  obtain ⟨q1, q2, q3, ys, q4, o', en', q5, q6⟩ := q
  exact ⟨q1, q2, q3, ys, q4, o', en', k _ q5, q6⟩
section
variable {X : Cx} {W : WX} {pos p1 p2 : Pos} {e k v : Expr} {tk tv td : TE}
def eNewN : FE SV := fun _ ω => .ok (.own ω.length) (ω ++ [some (.dcN [])])
def eEmptyK : FE D := fun _ ω => .ok (.dcK []) ω
def tNDisp (K : PySem.W.Frag) (tk tv : TE) : TE := fun σ H Q => ∀ p, H p = none → tk σ (L2.upd H p (dnO p 0 [])) fun x H1 => tv σ H1 fun y H2 => ∃ kk b, H2 p = some (dnO p 0 []) ∧ x = .ref b ∧ NOk K H2 kk b ∧ ∀ ep', Q (.ref p) (L2.upd H2 p (dnO p ep' [(kk, b, y)]))
theorem pe_ndisp (hu : X.A.units + 20 < cLine) (hk : PE X k tk) (hv : PE X v tv) : PE X (.Dict [some k] [v] pos) (tNDisp X.K tk tv) := by
  refine ⟨fun pins s σ H Q I q => ?_⟩
  have hn := I.hok.fresh (Nat.le_refl s.heap.objs.size)
  have I1 := I.laid (a := s.heap.objs.size) (o := dnO s.heap.objs.size 0 []) (h' := s.heap.push { cls := .type "dict", data := .dict #[] }) (t' := s.toks) (fun _ _ q => Heap.get?_push_of_some _ q) (Nat.le_refl _) (dn_empty s.heap I.big)
  rw [arm_eval_Dict]
  show wpAny _ _ (do standAt pos; dictDisplay ((pairTrees [some k] [v] X.env pos).map fun p => (some p.1, p.2))) _ _ _
  rw [dictDisplay_pairs (pairTrees [some k] [v] X.env pos) (by simp [pairTrees]) (by simp [pairTrees])]
  refine wpAny_bind (wpAny_standAt (wpAny_bind (wpAny_subDictH (knd := nestedKind X.prog X.w) (Q := fun d s' => wpAny (model X.prog X.w) X.A (pure (Value.ref d)) _ X.xe s') (by show X.A.units + 8 < cLine; omega) (by simp [pairTrees]) ?_)))
  refine pairTrees_cons_walk (thn (hk.run pins _ σ _ _ I1 (q _ hn)) fun u s1 ⟨x, H1, I1, rx, q1⟩ => thn (hv.run pins s1 σ H1 _ I1 q1) fun w2 s2 ⟨y, H2, I2, ry, kk, b, hp, ex, nb, q2⟩ => pairTrees_nil_walk ?_)
  subst ex
  obtain rfl : u = Value.ref b := rx
  obtain ⟨xs, o, ens, rel, hs, hl, ho, hx, hd, dd, he⟩ := n_real I2 hp (fun x hx => by cases hx)
  cases rel
  refine ⟨[(kk, b, w2)], ⟨rfl, rfl, nb.key I2, trivial⟩, dd, fun h' tk dd' sb => wpAny_pure ?_⟩
  obtain ⟨q, ens', ep', hq, h2, h3, h4, _, h5⟩ := dd'
  refine ⟨.ref s.heap.objs.size, _, d_write I2 (by rw [hp]; exact True.intro) sb ⟨q, hq⟩ (dn_ok (es := [(kk, b, y)]) hs (by show 1 ≤ sizeLine; decide) (by simp) (.cons ⟨rfl, rfl, ry⟩ .nil) (fun x hx w => ?_) hq h2 h3 h4), rfl, q2 ep'⟩
  simp at hx; subst hx; exact nb.hs w
end
end Dl
namespace Dl
open PySem L2
section
variable {X : Cx} {W : WX} {pos p1 p2 : Pos} {e k v : Expr} {tk tv td : TE}
def eNDisp (fk fv : FE D) : FE D := fun ρ ω => (fk ρ ω).bind fun k ω1 => (fv ρ ω1).bind fun v ω2 => Res.lift (if isKey k = true then some (.dcN [(k, v)]) else none) ω2
theorem Post.orig {β γ β2 : Type} {K : PySem.W.Frag} {mg : MG} {R : Hp → List Addr → Hp → β → γ → Prop} {R2 : Hp → List Addr → Hp → β2 → V → Prop} {G H : Hp} {α : List Addr} {Q2 : VK} {E : XK} {t : (γ → Hp → Prop) → Prop} {Q1 : γ → Hp → Prop} {r : Res β} {g : β → Om → Res β2} {G1 H1 : Hp} {α1 : List Addr}
    (e0 : Ext G α H G1 α1 H1) (J : ∀ Q, Post K mg R G1 α1 H1 Q E r → t Q) (h : Post K mg R2 G α H Q2 E (r.bind g))
    (k : ∀ b ω1 v G' α' H', Ext G1 α1 H1 G' α' H' → Own K mg G' α' ω1 H' → R G' α' H' b v → Post K mg R2 G α H Q2 E (g b ω1) → Q1 v H') : t Q1 := by
  cases r with
  | stuck => exact h.elim
  | ok b ω' => exact J Q1 fun v G' α' H' e O q => k b ω' v G' α' H' e O q h
  | exc x ω' => exact J Q1 fun c dd G' α' H' e O q => h c dd G' α' H' (e0.trans e) O q
theorem de_ndisp {fk fv : FE D} (hr : Room 0 X.A) (jk : De X W k fk) (jv : De X W v fv) : De X W (.Dict [some k] [v] pos) (eNDisp fk fv) := by
  obtain ⟨tk, pk, kk⟩ := jk
  obtain ⟨tv, pv, kv⟩ := jv
  refine ⟨_, pe_ndisp (by have := hr.un; omega) pk pv, fun G α ρ ω σ H Q O S P p hp => ?_⟩
  have S0 : Side X.K X.mg G α H p G α ω (L2.upd H p (dnO p 0 [])) (dnO p 0 []) := Side.new O hp
  refine Post.orig S0.ext (t := tk σ (L2.upd H p (dnO p 0 []))) (kk G α ρ ω σ _ · S0.own S) P fun k ω1 v1 G1 α1 H1 e1 O1 r1 P1 => ?_
  have S1 := S0.step e1 O1
  refine Post.orig S1.ext (t := tv σ H1) (kv G1 α1 ρ ω1 σ H1 · O1 (S.mono e1)) P1 fun v ω2 v2 G2 α2 H2 e2 O2 r2 P2 => ?_
  have S2 := S1.step e2 O2
  obtain ⟨d, eq, P3⟩ := P2.lift
  split at eq
  · rename_i hk
    cases eq
    obtain ⟨ok, ht⟩ := isKey_eq hk
    obtain ⟨b, rfl, hb, rb⟩ := rep_key O2.sub ok ht (Rep.mono e2.g _ _ r1)
    refine ⟨nk k, b, S2.at_, rfl, hb, fun ep' => ?_⟩
    have S3 := S2.set (o' := dnO p ep' [(nk k, b, v2)]) hp
    obtain ⟨x1, x2⟩ := S3.tell hp
    refine P3 _ _ _ _ x1 x2 (show Rep X.K X.mg _ (.dcN [(k, v)]) (.ref p) from rep_dcN.mpr ⟨p, ep', _, rfl, upd_same, ?_⟩)
    have sg := Same.upd (o := dnO p ep' [(nk k, b, v2)]) S3.gl
    exact repN_cons.mpr ⟨b, v2, [], rfl, ok, Rep.mono sg _ _ rb, Rep.mono sg _ _ r2, repN_nil.mpr rfl⟩
  · cases eq
theorem n_copyOf {pins : List (Addr × Obj)} {σ : St} {H : Hp} {s : Shared} {a : Addr} {ep : Nat} {es : NEs} {A : Around} {E : Value → Shared → Prop} {Q : Value → Shared → Prop} (hu : A.units + 40 < cLine) (I : Inv X pins σ H s) (na : NAt X.K H a ep es) (hn : (es.map fun x => hashN x.1).Nodup)
    (h : ∀ p ep' s', H p = none → Inv X pins σ (L2.upd H p (dnO p ep' es)) s' → Q (.ref p) s') : wpAny (model X.prog X.w) A (call (.type "dict") [.ref a]) Q E s := by
  obtain ⟨xs, o, ens, rel, hs, hl, ho, hx, hd, dd, he⟩ := n_real I na.at_ na.ok
  refine callType_codes (Q₁ := fun obj s1 => obj = .ref s.heap.objs.size ∧ s1 = { s with heap := s.heap.push { cls := .type "dict", data := .dict #[] } }) F.kt_called_dict (F.kt_typeCall_dict_1 _) F.entry_dict_init (kt_code_dict_new _ ⟨rfl, rfl⟩) ?_
  rintro obj s1 ⟨rfl, rfl⟩
  have hnew : (s.heap.push { cls := .type "dict", data := .dict #[] }).DictOfH (nestedKind X.prog X.w) s.heap.objs.size [] := Heap.DictOfH.new s.heap
  have kpush : ∀ b u, s.heap.get? b = some u → (s.heap.push { cls := .type "dict", data := .dict #[] }).get? b = some u := fun b u q => Heap.get?_push_of_some _ q
  have hmem := dd
  obtain ⟨_, _, _, _, _, _, _, his, hnd⟩ := hmem
  have dd' : (s.heap.push { cls := .type "dict", data := .dict #[] }).DictOfH (nestedKind X.prog X.w) a xs := dd.at' (fun o q => kpush _ _ q) fun y hy => nestedKind_stays.stays (fun b o vs n q _ => kpush b o q) (his y hy)
  have hdo : s.heap.objs.size ≠ a := fun z => absurd (Heap.lt_size ho) (by rw [← z]; exact Nat.lt_irrefl _)
  have hash : (xs.map fun x => (nestedKind X.prog X.w).hash x.1).Nodup := by
    have : ∀ {es : NEs} {xs : List (NestedKey × Addr × Value)}, NRel es xs → (∀ x ∈ es, NOk X.K H x.1 x.2.1) → (xs.map fun x => (nestedKind X.prog X.w).hash x.1) = es.map fun x => hashN x.1 := by
      intro es xs r
      induction r with
      | nil => intro _; rfl
      | @cons e x es xs r t ih =>
        intro ok
        rw [List.map_cons, List.map_cons, ih fun y hy => ok y (List.mem_cons_of_mem _ hy), ← r.1]
        rw [show (nestedKind X.prog X.w).hash e.1 = hashN e.1 from (ok e List.mem_cons_self).hs X.w]
    rw [this rel na.ok]; exact hn
  refine ⟨hnew.typeIs, F.args_dict_init_2 _ _, ?_⟩
  unfold Builtin.«dict.__init__»
  refine wpAny_bind ?_
  unfold Builtin.Dict.selfAndRest
  refine wpAny_bind (wpAny_notOrdered_dict hnew.typeIs ?_)
  show wpAny _ _ (pure (s.heap.objs.size, [Value.ref a])) _ _ _
  refine wpAny_pure ?_
  show wpAny _ _ (Builtin.Dict.updateFrom "dict.__init__" s.heap.objs.size (.ref a) [] .none) _ _ _
  refine updateFrom_dictH (knd := nestedKind X.prog X.w) .none (room8 (by show A.units + 1 + 20 < cLine; omega)) hdo hs hnew dd' (.inr ⟨fun x hx => nestedKind_stays.tuple (s := { s with heap := _ }) (nestedKind_stays.stays (fun b o vs n q _ => kpush b o q) (his x hx)), hash⟩) (by rw [List.length_nil, Nat.zero_add]; exact hl) fun h' d1 d2 sb => ?_
  rw [storedAllH_nil_of_nodup xs hnd] at d1
  obtain ⟨q, ens', ep', hq, h2, h3, h4, _, h5⟩ := d1
  have nd : (es.map (·.1)).Nodup := by rw [NRel.keys rel]; exact hnd
  refine ⟨rfl, h _ ep' _ (I.hok.fresh (Nat.le_refl _)) (I.laid (a := s.heap.objs.size) (t' := s.toks) (fun b u hb => (sb.2 b (Nat.ne_of_lt (Heap.lt_size hb))).trans (kpush b u hb)) (Nat.le_refl _) ?_)⟩
  exact dn_ok (beq_eq_false_iff_ne.mpr (Ne.symm (Nat.ne_of_lt I.big))) (by rw [Paired.length rel]; exact hl) nd rel (fun x hx => (na.ok x hx).hs) hq h2 h3 h4
theorem call_dictN (hu : X.A.units + 40 < cLine) : CallR X (.type "dict") (fun xs H Q => ∃ a ep es, xs = [.ref a] ∧ NAt X.K H a ep es ∧ (es.map fun x => hashN x.1).Nodup ∧ ∀ p ep', H p = none → Q (.ref p) (L2.upd H p (dnO p ep' es))) := by
  intro pins s σ H xs us Q I r h
  obtain ⟨a, ep, es, rfl, na, hn, q⟩ := h
  cases r with
  | cons rx rr =>
    cases rr
    cases rx
    exact n_copyOf hu I na hn fun p ep' s' hp I' => ⟨.ref p, _, I', rfl, q p ep' hp⟩
def hashOk (kvs : KVs) : Prop := (kvs.map fun p => hashN (nk p.1)).Nodup
instance (kvs : KVs) : Decidable (hashOk kvs) := by unfold hashOk; infer_instance
theorem repN_hash {K : PySem.W.Frag} {mg : MG} {G : Hp} : ∀ {kvs : KVs} {es : NEs}, RepN K mg G kvs es → (es.map fun x => hashN x.1) = kvs.map fun p => hashN (nk p.1)
  | [], es, r => by rw [repN_nil] at r; subst r; rfl
  | (k, d) :: kvs, es, r => by
    rw [repN_cons] at r
    obtain ⟨b, v, r', rfl, ok, r1, r2, r3⟩ := r
    rw [List.map_cons, List.map_cons, repN_hash r3]
def copyN (ω : Om) : D → Res SV
  | .dcN kvs => if hashOk kvs then .ok (.own ω.length) (ω ++ [some (.dcN kvs)]) else .stuck
  | _ => .stuck
def eCopyN (f : FE D) : FE SV := fun ρ ω => (f ρ ω).bind fun d ω1 => copyN ω1 d
theorem dv_copyN {f : FE D} (hr : Room 0 X.A) (hm : X.mg "dict" = none) (j : De X W e f) (hg : Gl X "dict" := by rfl) (he : starEach [e] X.env = (false, eval e X.env) :: starEach [] X.env := by rfl) (hpl : (backTo pos (starEach [] X.env)).any (·.1) = false := by rfl) (hv : bootBuiltins "dict" = some (.type "dict") := by decide +kernel) :
    Dv X W (.Call (.Name "dict" p1) [e] [] pos) (eCopyN f) := by
  obtain ⟨t, p, k⟩ := j
  refine ⟨_, pe_callTy (call_dictN (by have := hr.un; omega)) hg hm hv (pa_cons p pa_nil he) (by decide) (by decide) he hpl, fun G α ρ ω σ H Q O S P => ?_⟩
  refine Post.step (t := t σ H) (k G α ρ ω σ H · O S) P fun d ω1 v G1 α1 H1 e1 O1 r1 P1 => ?_
  cases d with
  | dcN kvs =>
    unfold copyN at P1
    by_cases hh : hashOk kvs
    · dsimp only at P1
      rw [if_pos hh] at P1
      have r1' : Rep X.K X.mg G1 (.dcN kvs) v := r1
      rw [rep_dcN] at r1'
      obtain ⟨a, ep, es, rfl, ha, rn⟩ := r1'
      refine ⟨a, ep, es, rfl, ⟨O1.sub _ _ ha, repN_ok O1.sub rn⟩, by rw [repN_hash rn]; exact hh, fun p ep' hp => ?_⟩
      obtain ⟨O2, e2⟩ := O1.new (u := dnO p ep' es) (o := .dcN kvs) hp ⟨ep', es, upd_same, rn⟩
      refine P1 _ G1 _ _ e2 O2 ⟨p, ?_, rfl⟩
      rw [← O1.len, List.getElem?_append_right (Nat.le_refl _)]
      simp
    · dsimp only at P1
      rw [if_neg hh] at P1; exact P1.elim
  | _ => exact P1.elim
end
end Dl
namespace Dl
open PySem
section
variable {prog : Program} {w : World} {κ : Type} [DecidableEq κ] {knd : KeyKind prog w κ} {A : Around} {E : Value → Shared → Prop} {s : Shared}
end
end Dl
namespace Dl
open PySem L2
section
variable {X : Cx} {W : WX} {pos p1 p2 apos cpos : Pos} {a b e k v o f : Expr} {ta tb tk tv td : TE}
end
end Dl
namespace Dl
open PySem L2
abbrev KKs := List (Key × D)
def dkMerge (kvs more : KKs) : KKs := more.foldl (fun acc p => dkPut acc p.1 p.2) kvs
def asK : D → Option KKs
  | .dcK kvs => some kvs
  | _ => none
section
variable {X : Cx} {W : WX} {pos p1 p2 apos cpos : Pos} {a b e k v o f : Expr} {ta tb tk tv td : TE}
def eKM (fa fb : FE D) : FE D := fun ρ ω => (fa ρ ω).bind fun x ω1 => match asK x with
  | none => .stuck
  | some kvs => if kvs.length ≤ 1000 then (fb ρ ω1).bind fun y ω2 => (match asK y with
    | some more => if more.length ≤ 1000 then .ok (.dcK (dkMerge (dkMerge [] kvs) more)) ω2 else .stuck
    | none => .stuck) else .stuck
def eKDisp (fk fv : FE D) : FE D := fun ρ ω => (fk ρ ω).bind fun k ω1 => (fv ρ ω1).bind fun v ω2 => Res.lift ((keyK k).map fun kk => .dcK [(kk, v)]) ω2
def kGet (kvs : KKs) (k x : D) : Option D := (keyK k).map fun kk => (dkGet kvs kk).getD x
def eKGet (fd fk fx : FE D) : FE D := fun ρ ω => (fd ρ ω).bind fun d ω1 => match asK d with
  | none => .stuck
  | some kvs => (fk ρ ω1).bind fun k ω2 => (fx ρ ω2).bind fun x ω3 => Res.lift (kGet kvs k x) ω3
def opKIx (x y : D) : Option D := match x with
  | .dcK kvs => (keyK y).bind fun k => dkGet kvs k
  | _ => none
def oDictK : List D → Option D
  | [.dcK kvs] => some (.dcK kvs)
  | _ => none
end
end Dl
namespace Dl
open PySem L2
section
variable {X : Cx} {W : WX} {pos pos' p1 p2 apos cpos : Pos} {a b e i k v o f : Expr} {es : List Expr} {ta tb tk tv td ty : TE}
def tsNPut (K : PySem.W.Frag) (td ty tv : TE) : TS := fun D σ H => tv σ H fun v H1 => td σ H1 fun x H2 => ty σ H2 fun y H3 => ∃ a ep es k b, x = .ref a ∧ NAt K H3 a ep es ∧ y = .ref b ∧ NOk K H3 k b ∧ es.length < sizeLine ∧ ∀ ep', D.nx σ (L2.upd H3 a (dnO a ep' (nput es k b v)))
theorem ps_nput (hu : X.A.units + 20 < cLine) (ho : PE X o td) (hi : PE X i ty) (hv : PE X v tv) (hs : swapsWith v (some (.Subscript o i pos')) pos.line X.env = pure false) : PS X (.Assign [.Subscript o i pos'] v pos) (tsNPut X.K td ty tv) := by
  refine ⟨fun pins s σ H D I h => ?_⟩
  refine wpAny_Assign_Subscript (thn (hv.run pins s σ H _ I h) fun r s1 ⟨v, H1, I1, rv, q1⟩ => thn (ho.run pins s1 σ H1 _ I1 q1) fun u s2 ⟨x, H2, I2, rx, q2⟩ => thn (hi.run pins s2 σ H2 _ I2 q2) fun iv s3 ⟨y, H3, I3, ry, a, ep, es, k, b, ex, na, ey, nb, hl, q3⟩ => ?_) hs
  subst ex ey
  obtain rfl : u = Value.ref a := rx
  obtain rfl : iv = Value.ref b := ry
  exact n_setItem hu I3 na.at_ na.ok nb hl rv fun ep' s4 I4 => ⟨σ, _, I4, q3 ep'⟩
def nPutR (i j : Nat) (ρ : Rho) (ω : Om) (k d : D) : Option KVs → Out
  | some kvs => if isKey k = true ∧ kvs.length < lim then .next ρ (ω.set j (some (.dcN (dnPut kvs k d)))) else .stuck
  | none => .stuck
def sNPut (i : Nat) (fk fe : FE D) : FS := fun ρ ω => (fe ρ ω).out ρ fun d ω1 => match ownK ρ i with
  | none => .stuck
  | some j => (fk ρ ω1).out ρ fun k ω2 => nPutR i j ρ ω2 k d (ownN ω2 j)
theorem ds_nput (n : Nat) {x : Str} {fk fe : FE D} (hr : Room 0 X.A) (jk : De X W i fk) (je : De X W v fe) (hN : X.N[n]? = some x := by rfl) (hv : Vis X.env.scope x := by first | exact Or.inl rfl | exact Or.inr (Or.inl rfl) | exact Or.inr (Or.inr rfl)) (hd : (x == ("__debug__" : Str)) = false := by decide)
    (hcd : (x == ("__classdict__" : Str)) = false := by decide) (hs : swapsWith v (some (.Subscript (.Name x p1) i pos')) pos.line X.env = pure false := by rfl) : Ds X W (.Assign [.Subscript (.Name x p1) i pos'] v pos) (sNPut n fk fe) := by
  obtain ⟨tk, pk, kk⟩ := jk
  obtain ⟨te, pe, ke⟩ := je
  refine ⟨_, ps_nput (by have := hr.un; omega) (pe_var (pos := p1) hN hv hd hcd) pk pe hs, fun G α ρ ω σ H E O S P => ?_⟩
  refine PostS.step S (t := te σ H) (ke G α ρ ω σ H · O S) P fun d ω1 v1 G1 α1 H1 e1 O1 r1 P1 => ?_
  cases q : ownK ρ n with
  | none => rw [q] at P1; exact P1.elim
  | some j =>
    rw [q] at P1
    dsimp only at P1
    obtain ⟨w, h1, a, h2, rfl⟩ := (S.mono e1).val n _ (ownK_eq q)
    refine ⟨_, h1, ?_⟩
    refine PostS.step (S.mono e1) (t := tk σ H1) (kk G1 α1 ρ ω1 σ H1 · O1 (S.mono e1)) P1 fun k ω2 v2 G2 α2 H2 e2 O2 r2 P2 => ?_
    cases q3 : ownN ω2 j with
    | none => rw [q3] at P2; exact P2.elim
    | some kvs =>
      rw [q3] at P2
      dsimp only [nPutR] at P2
      by_cases hc : isKey k = true ∧ kvs.length < lim
      · rw [if_pos hc] at P2
        obtain ⟨ok, ht⟩ := isKey_eq hc.1
        have ha : α2[j]? = some a := by
          obtain ⟨m2, e2', _⟩ := e2.pre
          rw [e2', List.getElem?_append_left (List.getElem?_eq_some_iff.mp h2).1]
          exact h2
        obtain ⟨_, ep, es, h4, rn⟩ := O2.obj j _ a (ownN_eq q3) ha
        obtain ⟨b, rfl, hb, rb⟩ := rep_key O2.sub ok ht r2
        refine ⟨a, ep, es, nk k, b, rfl, ⟨h4, repN_ok O2.sub rn⟩, rfl, hb, by rw [repN_len rn, lim_eq]; exact hc.2, fun ep' => ?_⟩
        obtain ⟨O3, e3⟩ := O2.put (u := dnO a ep' (nput es (nk k) b v1)) (o' := .dcN (dnPut kvs k d)) (ownN_eq q3) ha ⟨ep', _, upd_same, repN_put ok rb (Rep.mono e2.g _ _ r1) rn⟩
        exact P2 σ G2 α2 _ e3 O3 (((S.mono e1).mono e2).mono e3)
      · rw [if_neg hc] at P2; exact P2.elim
def fzOf : OD → D
  | .lst ds => .lst ds
  | .ins c fs => .obj c fs
  | .dcK kvs => .dcK kvs
  | .dcN kvs => .dcN kvs
def fzAt (ω : Om) (k : Nat) : Option D := match ω[k]? with
  | some (some o) => some (fzOf o)
  | _ => none
def sGf (n : Nat) (f : FS) : FS := fun ρ ω => match ρ[n]? with
  | some (some (.own k)) => (match fzAt ω k with
    | some d => f (ρ.set n (some (.val d))) (ω.set k none)
    | none => .stuck)
  | some (some (.val _)) => f ρ ω
  | _ => .stuck
theorem Slots.tell {K : PySem.W.Frag} {mg : MG} {G : Hp} {α : List Addr} {ρ : Rho} {σ : St} (S : Slots K mg G α ρ σ) {n : Nat} {x : SV} {v : V} (h : σ[n]? = some (some v)) (r : RepV K mg G α x v) : Slots K mg G α (ρ.set n (some x)) σ := by
  refine ⟨by rw [List.length_set]; exact S.len, fun j y hy => ?_⟩
  by_cases e : n = j
  · subst e
    by_cases hl : n < ρ.length
    · rw [List.getElem?_set_self hl] at hy; cases hy; exact ⟨v, h, r⟩
    · rw [List.getElem?_eq_none (by simp; omega)] at hy; cases hy
  · rw [List.getElem?_set_ne e] at hy; exact S.val j y hy
theorem gf_post {K : PySem.W.Frag} {mg : MG} {G H : Hp} {α : List Addr} {ρ : Rho} {ω : Om} {σ : St} {E : Ends} {n : Nat} {g : FS} (O : Own K mg G α ω H) (S : Slots K mg G α ρ σ) (P : PostS K mg G α H E W (sGf n g ρ ω)) : ∃ G' ρ' ω', Own K mg G' α ω' H ∧ Slots K mg G' α ρ' σ ∧ PostS K mg G' α H E W (g ρ' ω') := by
  unfold sGf at P
  split at P
  · rename_i k hk
    cases q : fzAt ω k with
    | none => rw [q] at P; exact P.elim
    | some d =>
      rw [q] at P
      dsimp only at P
      obtain ⟨v, h1, a, h2, rfl⟩ := S.val n _ hk
      unfold fzAt at q
      split at q
      · rename_i o ho
        cases q
        obtain ⟨hg, oa⟩ := O.obj k o a ho h2
        obtain ⟨u, hu⟩ := oa.there
        obtain ⟨O2, e2, _⟩ := O.freeze ho h2 hu
        have sg : Same G (L2.upd G a u) := Same.upd hg
        have rep : Rep K mg (L2.upd G a u) (fzOf o) (.ref a) := by
          cases o with
          | lst ds => obtain ⟨vs, h3, h4⟩ := oa; rw [hu] at h3; cases h3; exact rep_lst.mpr ⟨a, vs, rfl, SqL.of upd_same, Reps.mono sg _ _ h4⟩
          | ins c fs => obtain ⟨C, dx, fvs, m, h3, h4⟩ := oa; rw [hu] at h3; cases h3; exact rep_obj.mpr ⟨a, C, dx, fvs, rfl, m, upd_same, RepF.mono sg _ _ h4⟩
          | dcK kvs => obtain ⟨kv, h3, h4⟩ := oa; rw [hu] at h3; cases h3; exact rep_dcK.mpr ⟨a, kv, rfl, upd_same, RepK.mono sg _ _ h4⟩
          | dcN kvs => obtain ⟨ep, es, h3, h4⟩ := oa; rw [hu] at h3; cases h3; exact rep_dcN.mpr ⟨a, ep, es, rfl, upd_same, RepN.mono sg _ _ h4⟩
        exact ⟨_, _, _, O2, (S.mono e2).tell (x := .val (fzOf o)) h1 rep, P.weak e2⟩
      · cases q
  · exact ⟨G, ρ, ω, O, S, P⟩
  · exact P.elim
theorem ds_gf (n : Nat) {st : Stmt} {g : FS} (h : Ds X W st g) : Ds X W st (sGf n g) := by
  obtain ⟨t, p, k⟩ := h
  refine ⟨t, p, fun G α ρ ω σ H D O S P => ?_⟩
  obtain ⟨G', ρ', ω', O', S', P'⟩ := gf_post O S P
  exact k G' α ρ' ω' σ H D O' S' P'
def aStar (g : FE D) (h : FE (List SV)) : FE (List SV) := fun ρ ω => (g ρ ω).bind fun d ω1 => match itSeq d with
  | some ds => (h ρ ω1).bind fun xs ω2 => .ok (ds.map SV.val ++ xs) ω2
  | none => .stuck
theorem RepVs.append {K : PySem.W.Frag} {mg : MG} {G : Hp} {α : List Addr} : ∀ {xs ys : List SV} {vs us : List V}, RepVs K mg G α xs vs → RepVs K mg G α ys us → RepVs K mg G α (xs ++ ys) (vs ++ us)
  | _, _, _, _, .nil, h => h
  | _, _, _, _, .cons r t, h => .cons r (RepVs.append t h)
theorem da_star {g : FE D} {h : FE (List SV)} (jg : De X W e g) (jh : Da X W es h) (hs : starEach (.Starred e p1 :: es) X.env = (true, eval e X.env) :: starEach es X.env := by rfl) : Da X W (.Starred e p1 :: es) (aStar g h) := by
  obtain ⟨ta, pa, ka⟩ := jg
  obtain ⟨tb, pb, kb⟩ := jh
  refine ⟨_, StX.pa_star pa pb hs, fun G α ρ ω σ H Q O S P => ?_⟩
  refine Post.step (t := ta σ H) (ka G α ρ ω σ H · O S) P fun d ω1 v1 G1 α1 H1 e1 O1 r1 P1 => ?_
  cases q : itSeq d with
  | none => rw [q] at P1; exact P1.elim
  | some ds =>
    rw [q] at P1
    dsimp only at P1
    have go : ∃ a vs, v1 = .ref a ∧ (SqT X.K H1 a vs ∨ SqL X.K H1 a vs) ∧ Reps X.K X.mg G1 ds vs := by
      cases d with
      | tup ds' => cases q; have r2 : Rep X.K X.mg G1 (.tup ds) v1 := r1; rw [rep_tup] at r2; obtain ⟨a, vs, h1, h2, h3⟩ := r2; exact ⟨a, vs, h1, .inl (Same.sqT O1.sub h2), h3⟩
      | lst ds' => cases q; have r2 : Rep X.K X.mg G1 (.lst ds) v1 := r1; rw [rep_lst] at r2; obtain ⟨a, vs, h1, h2, h3⟩ := r2; exact ⟨a, vs, h1, .inr (O1.sub.seq h2), h3⟩
      | _ => cases q
    obtain ⟨a, vs, rfl, hq, hr⟩ := go
    refine ⟨a, vs, rfl, hq, ?_⟩
    refine Post.step (t := tb σ H1) (kb G1 α1 ρ ω1 σ H1 · O1 (S.mono e1)) P1 fun y ω2 v2 G2 α2 H2 e2 O2 r2 P2 => ?_
    exact Post.here O2 ((repVs_val (Reps.mono e2.g _ _ hr)).append r2) P2
end
end Dl
namespace Dl
open PySem L2
def alikeP (ps : List PyData) : Bool := ps.all fun p => ps.all fun q => PySem.W.alike p q
def sortB (ps : List PyData) : Bool := (ps.all fun p => match p with | .tuple (_ :: _) => true | _ => false) || ps.all fun p => match p with | .none => false | .tuple _ => false | _ => true
theorem alikeP_ok {ps : List PyData} (h : alikeP ps = true) : PySem.W.AllAlike ps := fun d hd d' hd' => by
  unfold alikeP at h
  exact List.all_eq_true.mp (List.all_eq_true.mp h d hd) d' hd'
theorem sortB_ok {ps : List PyData} (h : sortB ps = true) : PySem.W.Sortable ps := by
  unfold sortB at h
  rcases Bool.or_eq_true_iff.mp h with h | h
  · refine .inl fun d hd => ?_
    have := List.all_eq_true.mp h d hd
    split at this
    · exact ⟨_, _, rfl⟩
    · cases this
  · refine .inr fun d hd => ?_
    have := List.all_eq_true.mp h d hd
    split at this
    · cases this
    · cases this
    · rename_i h1 h2; exact ⟨h1, h2⟩
abbrev dLe {β : Type} (p q : β × PyData) : Bool := PySem.W.dataLe false (fun b : β × PyData => b.2) p q
def srt {β : Type} (bs : List β) (ps : List PyData) : List β := ((bs.zip ps).mergeSort dLe).map (·.1)
def rSortD (K : PySem.W.Frag) : List V → Hp → VK → Prop := fun xs H Q => ∃ a vs ps, xs = [.ref a] ∧ SqL K H a vs ∧ DpAll K H vs ps ∧ alikeP ps = true ∧ sortB ps = true ∧ PyData.depthAll ps ≤ 50 ∧ ∀ l, H l = none → Q (.ref l) (L2.upd H l (.lst (srt vs ps)))
theorem depth_le : ∀ {ps : List PyData} {n : Nat}, PyData.depthAll ps ≤ n → ∀ p ∈ ps, p.depth ≤ n
  | p :: ps, n, h, q, hq => by
    unfold PyData.depthAll at h
    rcases List.mem_cons.mp hq with rfl | hq
    · omega
    · exact depth_le (by omega) q hq
theorem dpAll_len {K : PySem.W.Frag} {H : Hp} : ∀ {vs : List V} {ps : List PyData}, DpAll K H vs ps → vs.length = ps.length
  | _, _, .nil => rfl
  | _, _, .cons _ t => by rw [List.length_cons, List.length_cons, dpAll_len t]
section
variable {X : Cx}
theorem call_sortD (hu : X.A.units + 100 < cLine) : CallR X (.builtin "sorted") (rSortD X.K) := by
  intro pins s σ H xs us Q I r h
  obtain ⟨a, vs, ps, rfl, hq, dp, hal, hk, hdp, q⟩ := h
  cases r with
  | cons rx rr =>
    cases rr
    cases rx
    obtain ⟨its, rv, pl, hz⟩ := I.list hq
    have hlen := dpAll_len dp
    have each : ∀ {vs : List V} {ps : List PyData} {us : List Value}, DpAll X.K H vs ps → Vals vs us → PySem.W.EachIs (fun (v : Value) (b : V × PyData) => RelV b.1 v ∧ ∃ as, Reads s.heap v b.2 as) us (vs.zip ps) := by
      intro vs ps
      induction ps generalizing vs with
      | nil => intro us d r; cases d; cases r; exact .nil
      | cons p ps ih =>
        intro us d r
        cases d with
        | cons d1 d2 =>
          cases r with
          | cons r1 r2 => exact .cons ⟨r1, Dp.reads I _ _ _ d1 r1⟩ (ih d2 r2)
    have E1 := each dp rv
    have mp : (vs.zip ps).map (·.2) = ps := by rw [List.map_snd_zip (by omega)]
    refine PySem.W.sorted_data (bs := vs.zip ps) (enc := fun b => b.2) (R := fun v b => RelV b.1 v) pl.isList (E1.mono fun _ _ z => z.1) (E1.mono fun _ _ z => z.2) (by rw [mp]; exact alikeP_ok hal) (by rw [mp]; exact sortB_ok hk) (by rw [List.length_zip]; have := hz; omega) (fun b hb => ?_) fun out ho er => ?_
    · have := depth_le hdp b.2 (by rw [← mp]; exact List.mem_map_of_mem hb)
      omega
    · obtain ⟨ep, he'⟩ := PyProof.Rows.sortedAll_at s.heap its out.toArray
      have hl : (srt vs ps).length ≤ sizeLine := by
        unfold srt; rw [List.length_map, List.length_mergeSort, List.length_zip]; omega
      have vals : Vals (srt vs ps) out := by
        unfold srt
        have : ∀ {us : List Value} {bs : List (V × PyData)}, PySem.W.EachIs (fun v b => RelV b.1 v) us bs → Vals (bs.map (·.1)) us := by
          intro us bs e
          induction e with
          | nil => exact .nil
          | cons r t ih => exact .cons r ih
        exact this er
      exact ⟨.ref _, L2.upd H (s.heap.objs.size + 1) (.lst (srt vs ps)), I.laid (t' := s.toks) (fun _ _ => PyProof.Rows.sortedAll_old) (Nat.le_succ _) ⟨hl, out, ep, vals, he'⟩, rfl, q _ (I.hok.fresh (Nat.le_succ _))⟩
end
def oSortL (ds : List D) : Option D := match toPys ds with
  | some ps => if alikeP ps = true ∧ sortB ps = true ∧ PyData.depthAll ps ≤ 50 then some (.lst (srt ds ps)) else none
  | none => none
theorem toPys_len : ∀ {ds : List D} {ps : List PyData}, toPys ds = some ps → ds.length = ps.length
  | [], ps, e => by unfold toPys at e; cases e; rfl
  | d :: ds, ps, e => by
    unfold toPys at e
    cases q : toPy d with
    | none => rw [q] at e; cases e
    | some p =>
      rw [q] at e
      cases q2 : toPys ds with
      | none => rw [q2] at e; cases e
      | some ps' => rw [q2] at e; cases e; rw [List.length_cons, List.length_cons, toPys_len q2]
theorem reps_of {K : PySem.W.Frag} {mg : MG} {G : Hp} : ∀ {zs : List (D × V)}, (∀ z ∈ zs, Rep K mg G z.1 z.2) → Reps K mg G (zs.map (·.1)) (zs.map (·.2))
  | [], _ => by rw [List.map_nil, List.map_nil, reps_nil]
  | z :: zs, h => by
    rw [List.map_cons, List.map_cons, reps_cons]
    exact ⟨_, _, rfl, h z List.mem_cons_self, reps_of fun y hy => h y (List.mem_cons_of_mem _ hy)⟩
theorem reps_zip {K : PySem.W.Frag} {mg : MG} {G : Hp} : ∀ {ds : List D} {vs : List V}, Reps K mg G ds vs → ∀ z ∈ ds.zip vs, Rep K mg G z.1 z.2
  | [], vs, r, z, hz => by simp at hz
  | d :: ds, vs, r, z, hz => by
    rw [reps_cons] at r
    obtain ⟨v, r', rfl, h1, h2⟩ := r
    rw [List.zip_cons_cons] at hz
    rcases List.mem_cons.mp hz with rfl | hz
    · exact h1
    · exact reps_zip h2 z hz
theorem srt_reps {K : PySem.W.Frag} {mg : MG} {G : Hp} {ds : List D} {vs : List V} {ps : List PyData} (r : Reps K mg G ds vs) (hl : ds.length = ps.length) : Reps K mg G (srt ds ps) (srt vs ps) := by
  have hv := r.length
  have key : ∀ {β : Type} (f : (D × V) × PyData → β × PyData) (hf : ∀ z, (f z).2 = z.2) , (((ds.zip vs).zip ps).mergeSort dLe).map f = ((((ds.zip vs).zip ps).map f)).mergeSort dLe := by
    intro β f hf
    refine List.map_mergeSort fun a _ b _ => ?_
    show PySem.W.dataLe false (fun b : (D × V) × PyData => b.2) a b = PySem.W.dataLe false (fun b : β × PyData => b.2) (f a) (f b)
    rw [PySem.W.dataLe_eq, PySem.W.dataLe_eq]
    dsimp only
    rw [hf, hf]
  have e1 : ((ds.zip vs).zip ps).map (fun z => (z.1.1, z.2)) = ds.zip ps := by
    apply List.ext_getElem
    · simp; omega
    · intro i h1 h2; simp
  have e2 : ((ds.zip vs).zip ps).map (fun z => (z.1.2, z.2)) = vs.zip ps := by
    apply List.ext_getElem
    · simp; omega
    · intro i h1 h2; simp
  have s1 : srt ds ps = ((((ds.zip vs).zip ps).mergeSort dLe).map (·.1)).map (·.1) := by
    unfold srt
    rw [← e1, ← key (fun z => (z.1.1, z.2)) (fun _ => rfl), List.map_map, List.map_map]; rfl
  have s2 : srt vs ps = ((((ds.zip vs).zip ps).mergeSort dLe).map (·.1)).map (·.2) := by
    unfold srt
    rw [← e2, ← key (fun z => (z.1.2, z.2)) (fun _ => rfl), List.map_map, List.map_map]; rfl
  rw [s1, s2]
  refine reps_of fun z hz => ?_
  obtain ⟨w, hw, rfl⟩ := List.mem_map.mp hz
  have := (List.mergeSort_perm ((ds.zip vs).zip ps) dLe).mem_iff.mp hw
  exact reps_zip r w.1 (List.of_mem_zip this).1
theorem copL_sort {K : PySem.W.Frag} {mg : MG} : CopL K mg (rSortD K) oSortL := by
  intro G H ds d a vs Q s e hq r k
  unfold oSortL at e
  cases q : toPys ds with
  | none => rw [q] at e; cases e
  | some ps =>
    rw [q] at e
    dsimp only at e
    split at e
    · rename_i hc
      cases e
      refine ⟨a, vs, ps, rfl, hq, dps_of s ds ps vs q r, hc.1, hc.2.1, hc.2.2, fun l hl => ?_⟩
      exact k _ _ _ (Grow.put s hl) (rep_newL (H := H) (s.free hl) (srt_reps r (toPys_len q)))
    · cases e
end Dl
namespace Dl
open PySem L2 PySem.W
section
variable {X : Cx}
end
end Dl
namespace Dl
open PySem L2
theorem u100 {k : Nat} {A : Around} (hr : Room k A) : A.units + 100 < cLine := by have := hr.un; omega
def rngI (a b : Int) : List Int := (List.range (b - a).toNat).map fun i => a + (i : Nat)
def rgB (a b : Int) : Bool := decide (-1000000000 ≤ a ∧ a ≤ 1000000000 ∧ -1000000000 ≤ b ∧ b ≤ 1000000000 ∧ (b - a).toNat ≤ 16777216)
def asInt : D → Option Int
  | .int i => some i
  | _ => none
def rgD (mk : List D → D) (x y : D) : Option D := match asInt x, asInt y with
  | some a, some b => if rgB a b = true then some (mk ((rngI a b).map D.int)) else none
  | _, _ => none
section
variable {X : Cx} {W : WX} {a b : Expr} {p1 p2 pos pos' : Pos}
def eRg1 (mk : List D → D) (f : FE D) : FE D := fun ρ ω => (f ρ ω).bind fun y ω1 => Res.lift (rgD mk (.int 0) y) ω1
end
end Dl
namespace Dl
open PySem L2
section
variable {ρ : Rho} {ω : Om} {i j k : Nat}
theorem eNDisp_run (f g : FE D) : eNDisp f g ρ ω = bindL (f ρ ω) (k := ⟨fun x ω1 => bindL (g ρ ω1) (k := ⟨fun y ω2 => Res.lift (if isKey x = true then some (.dcN [(x, y)]) else none) ω2⟩)⟩) := rfl
theorem eKDisp_run (f g : FE D) : eKDisp f g ρ ω = bindL (f ρ ω) (k := ⟨fun x ω1 => bindL (g ρ ω1) (k := ⟨fun y ω2 => Res.lift ((keyK x).map fun kk => .dcK [(kk, y)]) ω2⟩)⟩) := rfl
theorem eEmptyK_run : eEmptyK ρ ω = .ok (.dcK []) ω := rfl
theorem eNewN_run : eNewN ρ ω = .ok (.own ω.length) (ω ++ [some (.dcN [])]) := rfl
def kmR2 (kvs : KKs) (ω : Om) : Option KKs → Res D
  | some more => if more.length ≤ 1000 then .ok (.dcK (dkMerge (dkMerge [] kvs) more)) ω else .stuck
  | none => .stuck
def kmR [c : KtC] (kvs : Option KKs) (ω : Om) : Res D := match kvs with
  | some kvs => if kvs.length ≤ 1000 then c.run ω else .stuck
  | none => .stuck
theorem eKM_run (f g : FE D) : eKM f g ρ ω = bindL (f ρ ω) (k := ⟨fun x ω1 => @kmR ⟨fun ω1 => bindL (g ρ ω1) (k := ⟨fun y ω2 => kmR2 ((asK x).getD []) ω2 (asK y)⟩)⟩ (asK x) ω1⟩) := by
  unfold eKM bindL
  cases f ρ ω with
  | stuck => rfl
  | exc _ _ => rfl
  | ok x ω1 =>
    dsimp only [Res.bind]
    unfold kmR
    cases q : asK x with
    | none => rfl
    | some kvs =>
      dsimp only
      split
      · congr 1
      · rfl
theorem kmR_run {kvs : KKs} {g : Om → Res D} (h : kvs.length ≤ 1000) : @kmR ⟨g⟩ (some kvs) ω = g ω := by unfold kmR; dsimp only; rw [if_pos h]
theorem kmR2_run {kvs more : KKs} (h : more.length ≤ 1000) : kmR2 kvs ω (some more) = .ok (.dcK (dkMerge (dkMerge [] kvs) more)) ω := by unfold kmR2; dsimp only; rw [if_pos h]
theorem asK_run {kvs : KKs} : asK (.dcK kvs) = some kvs := rfl
theorem asN_run {kvs : KVs} : asN (.dcN kvs) = some kvs := rfl
def getRL [c : KtS KVs D] : Option KVs → Res D
  | some kvs => c.run kvs
  | none => .stuck
theorem eNGet_run (f g h : FE D) : eNGet f g h ρ ω = bindL (f ρ ω) (k := ⟨fun d ω1 => getRL (c := ⟨fun kvs => bindL (g ρ ω1) (k := ⟨fun x ω2 => bindL (h ρ ω2) (k := ⟨fun y ω3 => Res.lift (nGet kvs x y) ω3⟩)⟩)⟩) (asN d)⟩) := by
  unfold eNGet bindL
  cases f ρ ω with
  | stuck => rfl
  | exc _ _ => rfl
  | ok x ω1 =>
    dsimp only [Res.bind]
    unfold getRL
    cases asN x <;> rfl
theorem getRL_run {kvs : KVs} {g : KVs → Res D} : @getRL ⟨g⟩ (some kvs) = g kvs := rfl
def getKL [c : KtS KKs D] : Option KKs → Res D
  | some kvs => c.run kvs
  | none => .stuck
theorem eKGet_run (f g h : FE D) : eKGet f g h ρ ω = bindL (f ρ ω) (k := ⟨fun d ω1 => getKL (c := ⟨fun kvs => bindL (g ρ ω1) (k := ⟨fun x ω2 => bindL (h ρ ω2) (k := ⟨fun y ω3 => Res.lift (kGet kvs x y) ω3⟩)⟩)⟩) (asK d)⟩) := by
  unfold eKGet bindL
  cases f ρ ω with
  | stuck => rfl
  | exc _ _ => rfl
  | ok x ω1 =>
    dsimp only [Res.bind]
    unfold getKL
    cases asK x <;> rfl
theorem getKL_run {kvs : KKs} {g : KKs → Res D} : @getKL ⟨g⟩ (some kvs) = g kvs := rfl
def ngoR (j : Nat) (k x : D) (ω : Om) : Option KVs → Res D
  | some kvs => Res.lift (nGet kvs k x) ω
  | none => .stuck
def ngo1 [c : KtC] (o : Option KVs) (ω : Om) : Res D := match o with
  | some _ => c.run ω
  | none => .stuck
def ngo0 [c : KtS Nat D] : Option Nat → Res D
  | some j => c.run j
  | none => .stuck
theorem eNGetO_run (g h : FE D) : eNGetO i g h ρ ω = ngo0 (c := ⟨fun j => ngo1 (c := ⟨fun ω => bindL (g ρ ω) (k := ⟨fun x ω2 => bindL (h ρ ω2) (k := ⟨fun y ω3 => ngoR j x y ω3 (ownN ω3 j)⟩)⟩)⟩) (ownN ω j) ω⟩) (ownK ρ i) := by
  unfold eNGetO ngo0
  cases ownK ρ i with
  | none => rfl
  | some j =>
    dsimp only
    unfold ngo1
    cases ownN ω j with
    | none => rfl
    | some kv =>
      dsimp only [bindL]
      congr 1
theorem ngo0_run {g : Nat → Res D} : @ngo0 ⟨g⟩ (some j) = g j := rfl
theorem ngo1_run {kvs : KVs} {g : Om → Res D} : @ngo1 ⟨g⟩ (some kvs) ω = g ω := rfl
theorem ngoR_run {kvs : KVs} {x y : D} : ngoR j x y ω (some kvs) = Res.lift (nGet kvs x y) ω := rfl
def ownNR : Option (Option OD) → Option KVs
  | some (some (.dcN kvs)) => some kvs
  | _ => none
theorem ownN_run : ownN ω j = ownNR ω[j]? := by unfold ownN ownNR; split <;> simp_all
theorem ownNR_run {kvs : KVs} : ownNR (some (some (.dcN kvs))) = some kvs := rfl
theorem eCopyN_run (f : FE D) : eCopyN f ρ ω = bindL (f ρ ω) (k := ⟨fun d ω1 => copyN ω1 d⟩) := rfl
theorem copyN_run {kvs : KVs} (h : hashOk kvs) : copyN ω (.dcN kvs) = .ok (.own ω.length) (ω ++ [some (.dcN kvs)]) := by unfold copyN; dsimp only; rw [if_pos h]
def npK [c : KtT Nat] : Option Nat → Out
  | some j => c.run j
  | none => .stuck
theorem sNPut_run (f g : FE D) : sNPut i f g ρ ω = outL (g ρ ω) ρ (k := ⟨fun d ω1 => npK (c := ⟨fun j => outL (f ρ ω1) ρ (k := ⟨fun x ω2 => nPutR i j ρ ω2 x d (ownN ω2 j)⟩)⟩) (ownK ρ i)⟩) := by
  unfold sNPut outL
  cases g ρ ω with
  | stuck => rfl
  | exc _ _ => rfl
  | ok x ω1 =>
    dsimp only [Res.out]
    unfold npK
    cases q : ownK ρ i with
    | none => rfl
    | some j => rfl
theorem npK_run {g : Nat → Out} : @npK ⟨g⟩ (some j) = g j := rfl
theorem nPutR_run {kvs : KVs} {x d : D} (h : isKey x = true) (hl : kvs.length < lim) : nPutR i j ρ ω x d (some kvs) = .next ρ (ω.set j (some (.dcN (dnPut kvs x d)))) := by unfold nPutR; dsimp only; rw [if_pos ⟨h, hl⟩]
theorem sGf_own {f : FS} {o : OD} (h : ρ[i]? = some (some (.own k))) (h2 : ω[k]? = some (some o)) : sGf i f ρ ω = f (ρ.set i (some (.val (fzOf o)))) (ω.set k none) := by
  unfold sGf; rw [h]; dsimp only; unfold fzAt; rw [h2]
def starR [c : KtS (List D) (List SV)] : Option (List D) → Res (List SV)
  | some ds => c.run ds
  | none => .stuck
theorem aStar_run (f : FE D) (g : FE (List SV)) : aStar f g ρ ω = bindL (f ρ ω) (k := ⟨fun d ω1 => starR (c := ⟨fun ds => bindL (g ρ ω1) (k := ⟨fun xs ω2 => .ok (ds.map SV.val ++ xs) ω2⟩)⟩) (itSeq d)⟩) := by
  unfold aStar bindL
  cases f ρ ω with
  | stuck => rfl
  | exc _ _ => rfl
  | ok x ω1 =>
    dsimp only [Res.bind]
    unfold starR
    cases itSeq x <;> rfl
theorem starR_run {ds : List D} {g : List D → Res (List SV)} : @starR ⟨g⟩ (some ds) = g ds := rfl
theorem allD_app : ∀ (ds : List D) (xs : List SV), allD (ds.map SV.val ++ xs) = (allD xs).map (ds ++ ·)
  | [], xs => by rw [List.map_nil, List.nil_append]; cases allD xs <;> rfl
  | d :: ds, xs => by
    rw [List.map_cons, List.cons_append]
    show (allD (ds.map SV.val ++ xs)).map (d :: ·) = _
    rw [allD_app ds xs]
    cases allD xs <;> rfl
theorem eRg1_run (mk : List D → D) (f : FE D) : eRg1 mk f ρ ω = bindL (f ρ ω) (k := ⟨fun y ω1 => Res.lift (rgD mk (.int 0) y) ω1⟩) := rfl
theorem itNItems_run {kvs : KVs} : itNItems (.dcN kvs) = some (itemsD kvs) := rfl
theorem itNKeys_run {kvs : KVs} : itNKeys (.dcN kvs) = some (kvs.map (·.1)) := rfl
theorem oDictK_run {kvs : KKs} : oDictK [.dcK kvs] = some (.dcK kvs) := rfl
theorem opIn2_K {neg : Bool} {x : D} {kvs : KKs} : opIn2 neg x (.dcK kvs) = (keyK x).map fun k => .bl (if neg then !(dkGet kvs k).isSome else (dkGet kvs k).isSome) := rfl
theorem opKIx_run {x : D} {kvs : KKs} : opKIx (.dcK kvs) x = (keyK x).bind fun k => dkGet kvs k := rfl
theorem keyK_int (i : Int) : keyK (.int i) = some (.inl i) := rfl
theorem forL_fold {tg : FG} {b : FS} {α β : Type} (f : α → D) (step : β → α → β) (I : β → Rho → Om → Prop) : ∀ (xs : List α) (s : β) (ρ : Rho) (ω : Om), I s ρ ω →
    (∀ s x ρ ω, x ∈ xs → I s ρ ω → ∃ ρ1 ρ2 ω2, tg (f x) ρ = some ρ1 ∧ b ρ1 ω = .next ρ2 ω2 ∧ I (step s x) ρ2 ω2) → ∃ ρ' ω', forL tg b (xs.map f) ρ ω = .next ρ' ω' ∧ I (xs.foldl step s) ρ' ω'
  | [], s, ρ, ω, h, _ => ⟨ρ, ω, rfl, h⟩
  | x :: xs, s, ρ, ω, h, hs => by
    obtain ⟨ρ1, ρ2, ω2, h1, h2, h3⟩ := hs s x ρ ω List.mem_cons_self h
    obtain ⟨ρ', ω', h4, h5⟩ := forL_fold f step I xs (step s x) ρ2 ω2 h3 fun s y ρ ω hy => hs s y ρ ω (List.mem_cons_of_mem _ hy)
    exact ⟨ρ', ω', by rw [List.map_cons, forL_next h1 h2]; exact h4, h5⟩
end
end Dl
namespace Dl
open PySem PySem.Calls PyProof.Rows PySem.W PySem.SeqAt
section
variable {A : Around} {s : Shared}
end
end Dl
namespace Dl
open PySem L2
section
variable {X : Cx}
end
end Dl
namespace Dl
open PySem L2
open Classical in
section
variable {K : PySem.W.Frag} {mg : MG}
end
section
variable {X : Cx} {W : WX} {pos : Pos}
end
end Dl
namespace Dl
open PySem L2
def inP (neg : Bool) (p : PyData) (xs : List PyData) : Bool := if neg then !(xs.any fun y => PyData.eqv y p) else xs.any fun y => PyData.eqv y p
def okIn (p : PyData) (xs : List PyData) : Bool := p.plain && (PyData.plainAll xs && decide (PyData.depthAll xs ≤ 50))
def rInD (K : PySem.W.Frag) (neg : Bool) : R2 := fun x y H Q => ∃ p xs, Dp K H x p ∧ (Dp K H y (.list xs) ∨ Dp K H y (.tuple xs)) ∧ okIn p xs = true ∧ Q (.bl (inP neg p xs)) H
section
variable {X : Cx}
theorem op_inD (hu : X.A.units + 100 < cLine) : OpR X (compareOp .In) (rInD X.K false) := by
  intro pins s σ H x y v u Q I rx ry h
  obtain ⟨p, xs, d1, d2, ok, q⟩ := h
  unfold okIn at ok
  obtain ⟨h1, h2⟩ := Bool.and_eq_true_iff.mp ok
  obtain ⟨h2, h3⟩ := Bool.and_eq_true_iff.mp h2
  have h3 := of_decide_eq_true h3
  obtain ⟨as, r1⟩ := Dp.reads I _ _ _ d1 rx
  have hb : X.A.units + 1 + min (PyData.depthAll xs) p.depth < cLine := by have := Nat.min_le_left (PyData.depthAll xs) p.depth; omega
  rcases d2 with d2 | d2
  · obtain ⟨bs, r2⟩ := Dp.reads I _ _ _ d2 ry
    exact SeqAt.in_list_data r2 r1 h2 h1 hb ⟨.bl _, H, I, rfl, q⟩
  · obtain ⟨bs, r2⟩ := Dp.reads I _ _ _ d2 ry
    exact SeqAt.in_tuple_data r2 r1 h2 h1 hb ⟨.bl _, H, I, rfl, q⟩
end
def seqP : PyData → Option (List PyData)
  | .list xs => some xs
  | .tuple xs => some xs
  | _ => none
def opInD (neg : Bool) (x y : D) : Option D := match toPy x, (toPy y).bind seqP with
  | some p, some xs => if okIn p xs = true then some (.bl (inP neg p xs)) else none
  | _, _ => none
theorem bop_inD {K : PySem.W.Frag} {mg : MG} {neg : Bool} : Bop K mg (rInD K neg) (opInD neg) := by
  intro G H x y d v1 v2 Q s e r1 r2 k
  unfold opInD at e
  split at e
  · rename_i p xs hp hq
    split at e
    · rename_i hs
      cases e
      cases q : toPy y with
      | none => rw [q] at hq; cases hq
      | some z =>
        rw [q] at hq
        refine ⟨p, xs, dp_of s _ _ _ hp r1, ?_, hs, k _ G H (Grow.refl s) (rep_bl.mpr rfl)⟩
        have dz := dp_of s _ _ _ q r2
        have hq' : seqP z = some xs := hq
        unfold seqP at hq'
        split at hq'
        · cases hq'; exact .inl dz
        · cases hq'; exact .inr dz
        · cases hq'
    · cases e
  · cases e
theorem cmp_inD {X : Cx} {k : Nat} (hr : Room k X.A) : Cmp X .In (opInD false) := ⟨_, op_inD (u100 hr), bop_inD⟩
end Dl
namespace Dl
open PySem L2
def isiD2 (u1 u2 : String) (d : D) : Option D := (tyD d).map fun t => .bl (isTy t u1 || isTy t u2)
def eIsi2 (u1 u2 : String) (f : FE D) : FE D := fun ρ ω => (f ρ ω).bind fun d ω1 => Res.lift (isiD2 u1 u2 d) ω1
section
variable {X : Cx} {W : WX}
theorem eIsi2_run (u1 u2 : String) (f : FE D) {ρ : Rho} {ω : Om} : eIsi2 u1 u2 f ρ ω = bindL (f ρ ω) (k := ⟨fun d ω1 => Res.lift (isiD2 u1 u2 d) ω1⟩) := rfl
end
end Dl
namespace Dl
open PySem L2
def copyLR (ω : Om) : D → Res SV
  | .lst ds => .ok (.own ω.length) (ω ++ [some (.lst ds)])
  | .tup ds => .ok (.own ω.length) (ω ++ [some (.lst ds)])
  | _ => .stuck
def eCopyL (f : FE D) : FE SV := fun ρ ω => (f ρ ω).bind fun d ω1 => copyLR ω1 d
section
variable {X : Cx} {W : WX} {e : Expr} {p1 pos : Pos}
theorem eCopyL_run (f : FE D) {ρ : Rho} {ω : Om} : eCopyL f ρ ω = bindL (f ρ ω) (k := ⟨fun d ω1 => copyLR ω1 d⟩) := rfl
theorem copyLR_lst {ω : Om} {ds : List D} : copyLR ω (.lst ds) = .ok (.own ω.length) (ω ++ [some (.lst ds)]) := rfl
theorem copyLR_tup {ω : Om} {ds : List D} : copyLR ω (.tup ds) = .ok (.own ω.length) (ω ++ [some (.lst ds)]) := rfl
theorem gT2_run {f : List D → Rho → Option Rho} {x y : D} {ρ : Rho} : gT 2 f (.tup [x, y]) ρ = f [x, y] ρ := rfl
end
end Dl
namespace Dl
open PySem L2 PySem.W
section
variable {X : Cx} {W : WX} {e : Expr} {te : TE} {p apos cpos pos : Pos}
def nValsD (d : D) : Option D := (asN d).map fun kvs => .lst (kvs.map (·.2))
def eNVals (f : FE D) : FE D := fun ρ ω => (f ρ ω).bind fun d ω1 => Res.lift (nValsD d) ω1
theorem eNVals_run (f : FE D) {ρ : Rho} {ω : Om} : eNVals f ρ ω = bindL (f ρ ω) (k := ⟨fun d ω1 => Res.lift (nValsD d) ω1⟩) := rfl
theorem nValsD_run {kvs : KVs} : nValsD (.dcN kvs) = some (.lst (kvs.map (·.2))) := rfl
end
end Dl
namespace Dl
open PySem L2
section
variable {X : Cx} {W : WX} {k : Nat} {f C p : Addr} {fd : FuncData} {ps : List Str} {e : Expr} {pos : Pos}
end
end Dl
namespace HT
open PySem PyProof.Rows
open PySem.SeqAt
open PySem.AutoSeq1 (wpAny_loadPart')
open PySem.MeetsSeq PySem.MeetsSeq2 PySem.MeetsSeq3
section
variable {prog : Program} {w : World} {A : Around} {E : Value → Shared → Prop} {s : Shared}
end
end HT
namespace Dl
open PySem L2 PySem.Spec PyProof.Rows
section
variable {X : Cx} {W : WX}
end
end Dl
namespace Dl
open PySem L2
section
variable {X : Cx} {W : WX} {k : Nat} {f C : Addr} {fd : FuncData} {ps : List Str} {x : Str} {e o : Expr} {es : List Expr} {p pos apos : Pos} {g : FE (List SV)}
end
end Dl
namespace Dl
open PySem PyProof.Rows PySem.W
open L2 (V Hp VK Cx Inv OpR R2 SqL Vals RelV upd)
theorem vals_rep {xs : List V} {its : List Value} (r : Vals xs its) : ∀ k : Nat, Vals (List.replicate k xs).flatten (List.replicate k its).flatten
  | 0 => by simp; exact .nil
  | k + 1 => by rw [List.replicate_succ, List.replicate_succ, List.flatten_cons, List.flatten_cons]; exact Vals.append r (vals_rep r k)
theorem rep_len {xs : List V} : ∀ k : Nat, (List.replicate k xs).flatten.length = k * xs.length
  | 0 => by simp
  | k + 1 => by rw [List.replicate_succ, List.flatten_cons, List.length_append, rep_len k, Nat.add_mul]; omega
def rRepL (K : PySem.W.Frag) : R2 := fun x y H Q => ∃ a k xs, x = .ref a ∧ y = V.int k ∧ SqL K H a xs ∧ 0 ≤ k ∧ k ≤ 1000 ∧ xs.length ≤ 1000 ∧ ∀ p, H p = none → Q (.ref p) (L2.upd H p (.lst (List.replicate k.toNat xs).flatten))
theorem op_repL {X : Cx} : OpR X (binaryOp .Mult) (rRepL X.K) := by
  intro pins s σ H x y v u Q I rx ry h
  obtain ⟨a, k, xs, rfl, rfl, h1, k0, k1, hz, q⟩ := h
  cases rx
  obtain ⟨t, rfl⟩ := ry
  obtain ⟨its, r1, ⟨⟨cls, dd, data, sl⟩, n, ho, hc, hd, he⟩, z1⟩ := Inv.list I h1
  simp only at hc hd he
  subst hc hd he
  have l1 := r1.length
  have hm : its.length * k.toNat ≤ 1000 * 1000 := Nat.mul_le_mul (by omega) (by omega)
  refine wpAny_binaryOp_repeat_ref (T := "list") (U := "int") (by decide) ⟨_, ho, rfl⟩ (fun s' => typeIs_int s' k t) noFill_list_mul F.fills_int_mul F.slot_int_rmul repeat_list F.slot_int_index.lookup
    (call_meets F.slot_int_rmul (typeIs_int s k t) F.entry_int_rmul (F.args_int_rmul_2 _ _) (lm_int_rmul_list_any k t a its.toArray n none sl)
      ⟨ho, rfl, ⟨_, ho, rfl⟩, call_meets F.slot_list_mul ⟨_, ho, rfl⟩ F.entry_list_mul (F.args_list_mul_2 _ _)
        (lm_list_mul_any a its.toArray n none sl k t (by simp [Builtin.List.listFitsIndex]; omega) (by simp; omega) (by simp [Builtin.List.listTooLong, sizeLine]; omega)) ⟨ho, ?_⟩⟩)
  rw [listMul_foldl_if]
  refine ⟨.ref s.heap.objs.size, _, Inv.lnew I (vals_rep r1 k.toNat) ?_, rfl, q _ (Inv.fresh I)⟩
  rw [rep_len]
  show _ ≤ 16777216
  have := Nat.mul_le_mul (show k.toNat ≤ 1000 by omega) hz
  omega
end Dl
namespace Dl
open PySem L2
def opMulB : D → D → Option D
  | .lst ds, .int k => if 0 ≤ k ∧ k ≤ 1000 ∧ ds.length ≤ 1000 then some (.lst (List.replicate k.toNat ds).flatten) else none
  | x, y => opMulA x y
section
variable {K : PySem.W.Frag} {mg : MG} {X : Cx} {W : WX}
def rMulB (K : PySem.W.Frag) : R2 := fun x y H Q => rMulA K x y H Q ∨ rRepL K x y H Q
theorem op_mulB : OpR X (binaryOp .Mult) (rMulB X.K) := op_mulA.or op_repL
theorem bop_mulB : Bop K mg (rMulB K) opMulB := by
  intro G H x y d v1 v2 Q s e r1 r2 k
  unfold opMulB at e
  split at e
  · rename_i ds n
    split at e
    · rename_i hb
      cases e
      rw [rep_lst] at r1
      obtain ⟨a, vs, rfl, h1, h2⟩ := r1
      rw [rep_int] at r2
      subst r2
      obtain ⟨g1, g2, g3⟩ := hb
      exact .inr ⟨a, n, vs, rfl, rfl, s.seq h1, g1, g2, by rw [h2.length]; exact g3, fun p hp => k _ _ _ (Grow.put s hp) (rep_newL (H := H) (s.free hp) (h2.rep _))⟩
    · cases e
  · exact .inl (bop_mulA G H x y d v1 v2 Q s e r1 r2 k)
theorem de_mulB {a b : Expr} {pos : Pos} {f g : FE D} (ja : De X W a f) (jb : De X W b g) : De X W (.BinOp a .Mult b pos) (eBin opMulB f g) := de_bin op_mulB bop_mulB ja jb
end
end Dl
namespace Dl
open PySem PySem.Calls PyProof.Rows PySem.W
section
variable {prog : Program} {w : World} {A : Around} {E : Value → Shared → Prop} {s : Shared}
end
end Dl
namespace Dl
open PySem L2
section
variable {X : Cx}
end
end Dl
namespace PySem.W
open PyProof.Rows
section
variable {prog : Program} {w : World} {A : Around} {E : Value → Shared → Prop} {s : Shared} {K : Frag} {x C L f : Addr} {h₀ : Heap} {m : Str → Option Value} {ox : Obj} {od : Option Obj} {b tb : Value}
end
end PySem.W
namespace Dl
open PySem L2
section
variable {X : Cx} {nms : List Str} {i j : Nat} {y : Str} {e : Expr} {es : List Expr} {pos p' pl p1 p2 p3 p4 : Pos}
end
end Dl
namespace Dl
open PySem L2
section
variable {X : Cx} {W : WX} {k : Nat} {f C : Addr} {fd : FuncData} {ps : List Str}
end
section
variable {X : Cx} {W : WX} {o e : Expr} {fo fe : FE D} {p2 p3 : Pos}
end
end Dl
namespace Dl
open PySem L2
section
variable {K : PySem.W.Frag} {mg : MG}
structure LiesK (K : PySem.W.Frag) (mg : MG) (G0 : Hp) (α0 : List Addr) (H0 : Hp) (L : Addr) (G : Hp) (α : List Addr) (ω : Om) (acc : List (Key × D)) (H : Hp) : Prop where
  ext : Ext G0 α0 H0 G α H
  own : Own K mg G α ω H
  gl : G L = none
  na : L ∉ α
  at_ : ∃ kv, H L = some (.dK kv) ∧ RepK K mg G acc kv
theorem LiesK.step {G0 H0 G H G1 H1 : Hp} {α0 α α1 : List Addr} {L : Addr} {ω ω1 : Om} {acc : List (Key × D)} (B : LiesK K mg G0 α0 H0 L G α ω acc H) (e : Ext G α H G1 α1 H1) (O : Own K mg G1 α1 ω1 H1) : LiesK K mg G0 α0 H0 L G1 α1 ω1 acc H1 := by
  obtain ⟨vsa, h1, h2⟩ := B.at_
  obtain ⟨more, e1, e2⟩ := e.pre
  refine ⟨B.ext.trans e, O, ?_, ?_, vsa, e.keep L _ h1 B.na, RepK.mono e.g _ _ h2⟩
  · cases q : G1 L with
    | none => rfl
    | some o =>
      rcases e.new L o q with z | z | z
      · rw [B.gl] at z; cases z
      · rw [h1] at z; cases z
      · exact absurd z B.na
  · rw [e1]
    intro z
    rcases List.mem_append.mp z with z | z
    · exact B.na z
    · rw [e2 L z] at h1; cases h1
theorem LiesK.set {G0 H0 G H : Hp} {α0 α : List Addr} {L : Addr} {ω : Om} {acc acc' : List (Key × D)} {kv : List (Key × V)} (B : LiesK K mg G0 α0 H0 L G α ω acc H) (h0 : H0 L = none) (r : RepK K mg G acc' kv) : LiesK K mg G0 α0 H0 L G α ω acc' (L2.upd H L (.dK kv)) :=
  ⟨B.ext.setL h0, B.own.setL B.gl B.na, B.gl, B.na, kv, upd_same, r⟩
theorem LiesK.freeze {G0 H0 G H : Hp} {α0 α : List Addr} {L : Addr} {ω : Om} {acc : List (Key × D)} (B : LiesK K mg G0 α0 H0 L G α ω acc H) (h0 : H0 L = none) : ∃ G', Ext G0 α0 H0 G' α H ∧ Own K mg G' α ω H ∧ Rep K mg G' (.dcK acc) (.ref L) := by
  obtain ⟨vsa, h1, h2⟩ := B.at_
  have sg : Same G (L2.upd G L (.dK vsa)) := Same.upd B.gl
  refine ⟨L2.upd G L (.dK vsa), ⟨B.ext.g.trans sg, fun a o h => ?_, B.ext.keep, B.ext.live, B.ext.pre⟩, ⟨fun b u h => ?_, B.own.len, B.own.nd, B.own.ex, fun k u a h3 h4 => ?_⟩, rep_dcK.mpr ⟨L, vsa, rfl, upd_same, RepK.mono sg _ _ h2⟩⟩
  · by_cases z : a = L
    · subst z; exact .inr (.inl h0)
    · rw [upd_ne z] at h; exact B.ext.new a o h
  · by_cases z : b = L
    · subst z; rw [upd_same] at h; cases h; exact h1
    · rw [upd_ne z] at h; exact B.own.sub b u h
  · obtain ⟨q1, q2⟩ := B.own.obj k u a h3 h4
    have : a ≠ L := fun z => B.na (by rw [← z]; exact List.mem_of_getElem? h4)
    exact ⟨by rw [upd_ne this]; exact q1, q2.mono sg rfl⟩
end
section
variable {X : Cx} {W : WX} {pos : Pos}
end
end Dl
namespace Dl
open PySem L2 PySem.W
section
variable {X : Cx} {W : WX} {e : Expr} {fe : FE D}
def sExt (i : Nat) (fe : FE D) : FS := fun ρ ω => match ownK ρ i with
  | none => .stuck
  | some k => match ownL ω k with
    | none => .stuck
    | some _ => (fe ρ ω).out ρ fun d ω1 => match d, ownL ω1 k with
      | .lst es, some ds => if ds.length + es.length ≤ lim then .next ρ (ω1.set k (some (.lst (ds ++ es)))) else .stuck
      | _, _ => .stuck
end
end Dl
namespace Dl
open PySem L2 PySem.Spec PyProof.Rows
def rg3N (a b c : Int) : Nat := (Builtin.Range.rangeSize a b c).toNat
def Rg3Ok (a b c : Int) : Prop := 0 < c ∧ c < 1000 ∧ Builtin.Range.small a b c = true ∧ rg3N a b c ≤ 16777216
instance (a b c : Int) : Decidable (Rg3Ok a b c) := by unfold Rg3Ok; exact inferInstance
section
variable {X : Cx} {W : WX} {a b c : Expr} {ta tb tc : TE} {p1 p2 pos pos' : Pos}
end
end Dl
namespace Dl
open PySem L2
section
variable {K : PySem.W.Frag} {mg : MG}
end
section
variable {X : Cx} {W : WX} {pos : Pos}
end
end Dl
noncomputable section
namespace Pk
open PySem Dl
def f__law_draws : FS :=
  (sRetNew (aCons (aVal (eCallB oList (aCons (aVal (eVar 0)) aNil))) (aCons (aVal (eC (.int 0))) (aCons (aVal (eC (.int 0))) (aCons (aVal (eC (.int 7))) aNil)))))
def F__law_draws : Fn := fnE 1 1 f__law_draws
def f__law_can : FS :=
  (sRet (eAnd (eIx (eVar 0) (eC (.int 2))) (eBin opNe (eIx (eVar 0) (eC (.int 0))) (eIx (eVar 0) (eC (.int 1))))))
def F__law_can : FnP := fnP 1 1 f__law_can
def f__law_pick : FS :=
  (sSeq (sIf (eTest (eBin opEq (eIxO 0 (eC (.int 2))) (eC (.int 0)))) (sIf (eTest (eBin opLt (eIxO 0 (eC (.int 1))) (eCallB oLen (aCons (aVal (eIxO 0 (eC (.int 0)))) aNil)))) (sSeq (sSet 3 (eIx (eIxO 0 (eC (.int 0))) (eIxO 0 (eC (.int 1)))))
    (sSeq (sSetIx 0 (eC (.int 1)) (eBin opAdd (eIxO 0 (eC (.int 1))) (eC (.int 1))))
    (sIf (eTest (eBin opGe (eVar 3) (eBin opPow (eC (.int 10)) (eC (.int 18))))) (sSetIx 0 (eC (.int 2)) (eVar 3)) (sSetIx 0 (eC (.int 3)) (eBin opMod (eCallB oInt (aCons (aVal (eBin opAdd (eBin opAdd (eBin opMulA (eIxO 0 (eC (.int 3))) (eC (.int 48271))) (eBin opMulA (eVar 3) (eC (.int 69621)))) (eC (.int 11)))) aNil)) (eC (.int 2147483647))))))) (sSetIx 0 (eC (.int 3)) (eBin opMod (eCallB oInt (aCons (aVal (eBin opAdd (eBin opMulA (eIxO 0 (eC (.int 3))) (eC (.int 48271))) (eC (.int 7)))) aNil)) (eC (.int 2147483647))))) sNext)
    (sSeq (sIf (eTest (eBin opGt (eIxO 0 (eC (.int 2))) (eC (.int 0)))) (sSeq (sSet 2 (eBin opMod (eCallB oInt (aCons (aVal (eIxO 0 (eC (.int 2)))) aNil)) (eVar 1)))
    (sSeq (sSetIx 0 (eC (.int 2)) (eBin opDiv (eIxO 0 (eC (.int 2))) (eVar 1)))
    (sRet (eVar 2)))) sNext)
    (sRet (eBin opMod (eBin opMod (eCallB oInt (aCons (aVal (eBin opMulA (eIxO 0 (eC (.int 3))) (eC (.int 16807)))) aNil)) (eC (.int 2147483629))) (eVar 1)))))
def F__law_pick : Fn := fnE 2 4 f__law_pick
def f__law_body : FS :=
  (sSeq (sPar 3 4 (aCons (aVal (eIx (eVar 1) (eC (.int 0)))) (aCons (aVal (eIx (eVar 1) (eC (.int 1)))) aNil)))
    (sSeq (sIf (eTest (eIx (eVar 2) (eC (.int 1)))) (sPar 3 4 (aCons (aVal (eVar 4)) (aCons (aVal (eVar 3)) aNil))) sNext)
    (sRet (eList (aCons (aVal (eBin opSub (eIx (eVar 0) (eIx (eVar 2) (eC (.int 0)))) (eVar 3))) (aCons (aVal (eBin opAdd (eIx (eVar 0) (eIx (eVar 2) (eC (.int 0)))) (eVar 4))) aNil))))))
def F__law_body : FnP := fnP 3 5 f__law_body
def f__law_sockets : FS :=
  (sSeq (sPar 3 4 (aCons (aVal (eTup aNil)) (aCons (aVal (eVal (eCallE F__law_pick (aCons (eSlot 0) (aCons (aVal (eC (.int 20))) aNil))))) aNil)))
    (sSeq (sFor (eIt1 itR1 (eBin opAdd (eC (.int 1)) (eVal (eCallE F__law_pick (aCons (eSlot 0) (aCons (aVal (eVar 1)) aNil)))))) (gN 2)
    (sSeq (sIf (eTest (eBin opLe (eVar 4) (eC (.int 300)))) (sSet 3 (eBin opAdd (eVar 3) (eTup (aCons (aVal (eVar 4)) aNil)))) sNext)
    (sSet 4 (eBin opAdd (eVar 4) (eIx (eList (aCons (aVal (eC (.int 30))) (aCons (aVal (eBin opAdd (eC (.int 1)) (eVal (eCallE F__law_pick (aCons (eSlot 0) (aCons (aVal (eC (.int 40))) aNil)))))) (aCons (aVal (eC (.int 20))) aNil)))) (eVal (eCallE F__law_pick (aCons (eSlot 0) (aCons (aVal (eC (.int 3))) aNil)))))))))
    (sRet (eVar 3))))
def F__law_sockets : Fn := fnE 2 5 f__law_sockets
def f__law_plug : FS :=
  (sSeq (sPar 1 2 (aCons (aVal (eIx (eList (aCons (aVal (eC (.int 0))) (aCons (aVal (eC (.int 5))) (aCons (aVal (eC (.int 10))) (aCons (aVal (eC (.int 15))) (aCons (aVal (eC (.int 20))) (aCons (aVal (eC (.int 30))) (aCons (aVal (eC (.int 40))) (aCons (aVal (eC (.int 60))) aNil))))))))) (eVal (eCallE F__law_pick (aCons (eSlot 0) (aCons (aVal (eC (.int 8))) aNil)))))) (aCons (aVal (eVal (eCallE F__law_pick (aCons (eSlot 0) (aCons (aVal (eC (.int 41))) aNil))))) aNil)))
    (sRet (eTup (aCons (aVal (eVar 1)) (aCons (aVal (eIx (eList (aCons (aVal (eVar 2)) (aCons (aVal (eC (.int 15))) (aCons (aVal (eVar 1)) aNil)))) (eVal (eCallE F__law_pick (aCons (eSlot 0) (aCons (aVal (eC (.int 3))) aNil)))))) (aCons (aVal (eBin opEq (eVal (eCallE F__law_pick (aCons (eSlot 0) (aCons (aVal (eC (.int 2))) aNil)))) (eC (.int 0)))) aNil))))))
def F__law_plug : Fn := fnE 1 3 f__law_plug
def f__law_plugs : FS :=
  (sRet (eCallB oTuple (aCons (aVal (eLc [2] (eIt1 itR1 (eBin opAdd (eC (.int 1)) (eVal (eCallE F__law_pick (aCons (eSlot 0) (aCons (aVal (eVar 1)) aNil)))))) (gN 2) eTrue (eVal (eCallE F__law_plug (aCons (eSlot 0) aNil))))) aNil)))
def F__law_plugs : Fn := fnE 2 3 f__law_plugs
def f_is_from : FS :=
  (sRet (eAnd (eIsi "int" (eVar 0)) (eAnd (eNot (eIsi "bool" (eVar 0))) (eChain opLe opLe (eVar 1) (eVar 0) (eVar 2)))))
def F_is_from : FnP := fnP 3 3 f_is_from
def f_is_plug : FS :=
  (sSeq (sIf (eOrT (eNotT (eTest (eIsi "tuple" (eVar 0)))) (eOrT (eTest (eBin opNe (eCallB oLen (aCons (aVal (eVar 0)) aNil)) (eC (.int 3)))) (eNotT (eTest (eOnL oAllL (eLst (eLc [1] (eIt1 itSeq (eSl (eVar 0) eNoPart (ePart (eC (.int 2))))) (gN 1) eTrue (eCallP F_is_from (aCons (aVal (eVar 1)) (aCons (aVal (eC (.int 0))) (aCons (aVal (eC (.int 60))) aNil))))))))))) (sRet (eC (.bl false))) sNext)
    (sRet (eIsi "bool" (eIx (eVar 0) (eC (.int 2))))))
def F_is_plug : FnP := fnP 1 2 f_is_plug
def f_sides : FS :=
  (sRet (eIf (eTest (eVar 1)) (eTup (aCons (aVal (eIx (eVar 0) (eC (.int 1)))) (aCons (aVal (eIx (eVar 0) (eC (.int 0)))) aNil))) (eSl (eVar 0) eNoPart (ePart (eC (.int 2))))))
def F_sides : FnP := fnP 2 2 f_sides
def f_body : FS :=
  (sSeq (sAsg (eCallP F_sides (aCons (aVal (eVar 1)) (aCons (aVal (eIx (eVar 2) (eC (.int 1)))) aNil))) (gT 2 (gsCons (gN 3) (gsCons (gN 4) gsNil))))
    (sRet (eTup (aCons (aVal (eBin opSub (eIx (eFld "Strip" "rows" (eVar 0)) (eIx (eVar 2) (eC (.int 0)))) (eVar 3))) (aCons (aVal (eBin opAdd (eIx (eFld "Strip" "rows" (eVar 0)) (eIx (eVar 2) (eC (.int 0)))) (eVar 4))) aNil)))))
def F_body : FnP := fnP 3 5 f_body
def f_can_turn : FS :=
  (sRet (eAnd (eIx (eVar 0) (eC (.int 2))) (eBin opNe (eIx (eVar 0) (eC (.int 0))) (eIx (eVar 0) (eC (.int 1))))))
def F_can_turn : FnP := fnP 1 1 f_can_turn
def f_stands_of : FS :=
  (sRet (eIf (eTest (eCallP F_can_turn (aCons (aVal (eVar 0)) aNil))) (eList (aCons (aVal (eC (.bl false))) (aCons (aVal (eC (.bl true))) aNil))) (eList (aCons (aVal (eC (.bl false))) aNil))))
def F_stands_of : FnP := fnP 1 1 f_stands_of
def lc_Strip_d__init_d__2_1 : FE D :=
  (eLc [2] (eIt1 itSeq (eVar 1)) (gN 2) eTrue (eCallP F_is_from (aCons (aVal (eVar 2)) (aCons (aVal (eC (.int 0))) (aCons (aVal (eC (.int 300))) aNil)))))
def lc_Strip_d__init_d__2_2 : FE D :=
  (eLc [2, 3] (eIt2 itZ (eVar 1) (eSl (eVar 1) (ePart (eC (.int 1))) eNoPart)) (gT 2 (gsCons (gN 2) (gsCons (gN 3) gsNil))) eTrue (eBin opLt (eVar 2) (eVar 3)))
def f_Strip_d__init_d__2 : FS :=
  (sSeq (sIf (eOrT (eNotT (eTest (eIsi "tuple" (eVar 1)))) (eNotT (eTest (eChain opLe opLe (eC (.int 1)) (eCallB oLen (aCons (aVal (eVar 1)) aNil)) (eC (.int 9)))))) (sRaise "BadSockets") sNext)
    (sSeq (sIf (eNotT (eTest (eOnL oAllL (eLst lc_Strip_d__init_d__2_1)))) (sRaise "BadSockets") sNext)
    (sSeq (sIf (eNotT (eTest (eOnL oAllL (eLst lc_Strip_d__init_d__2_2)))) (sRaise "BadSockets") sNext)
    (sFldO 0 "Strip" "rows" (eVar 1)))))
def F_Strip_d__init_d__2 : Fn := fnE 2 4 f_Strip_d__init_d__2
def bd_check_plugs_2_1 : FS :=
  (sIf (eNotT (eTest (eCallP F_is_plug (aCons (aVal (eVar 3)) aNil)))) (sRaiseI "BadPlugs" ["index"] (aCons (aVal (eVar 2)) aNil)) sNext)
def f_check_plugs_2 : FS :=
  (sSeq (sIf (eOrT (eNotT (eTest (eIsi "tuple" (eVar 0)))) (eNotT (eTest (eChain opLe opLe (eC (.int 1)) (eCallB oLen (aCons (aVal (eVar 0)) aNil)) (eVar 1))))) (sRaiseI "BadPlugs" ["index"] (aCons (aVal (eC .non)) aNil)) sNext)
    (sFor (eIt1 itEn (eVar 0)) (gT 2 (gsCons (gN 2) (gsCons (gN 3) gsNil)))
    bd_check_plugs_2_1))
def F_check_plugs_2 : FnP := fnP 2 4 f_check_plugs_2
def f__law_odd_plug : FS :=
  (sSeq (sSet 1 (eList (aCons (aVal (eC .non)) (aCons (aVal (eTup (aCons (aVal (eC (.int 1))) (aCons (aVal (eC (.int 2))) aNil)))) (aCons (aVal (eList (aCons (aVal (eC (.int 1))) (aCons (aVal (eC (.int 2))) (aCons (aVal (eC (.bl true))) aNil))))) (aCons (aVal (eTup (aCons (aVal (eC (.int 1))) (aCons (aVal (eC (.int 2))) (aCons (aVal (eC (.int 1))) aNil))))) (aCons (aVal (eTup (aCons (aVal (eC (.int 61))) (aCons (aVal (eC (.int 0))) (aCons (aVal (eC (.bl true))) aNil))))) (aCons (aVal (eTup (aCons (aVal (eC (.int 0))) (aCons (aVal (eUn opNeg (eC (.int 1)))) (aCons (aVal (eC (.bl false))) aNil))))) (aCons (aVal (eTup (aCons (aVal (eC (.bl true))) (aCons (aVal (eC (.int 0))) (aCons (aVal (eC (.bl false))) aNil))))) (aCons (aVal (eTup (aCons (aVal (eC (.int 0))) (aCons (aVal (eC (.int 0))) (aCons (aVal (eC .non)) aNil))))) (aCons (aVal (eC (.str "plug"))) aNil)))))))))))
    (sRet (eIx (eVar 1) (eVal (eCallE F__law_pick (aCons (eSlot 0) (aCons (aVal (eC (.int 9))) aNil)))))))
def F__law_odd_plug : Fn := fnE 1 2 f__law_odd_plug
end Pk
namespace Dl
open PySem
section
variable {prog : Program} {w : World} {A : Around} {R : Result → Shared → Prop} {It q S : Addr} {fp wr : List Addr} {Gn : Array GenState → Array GenState → Prop} {n : Nat} {P : Nat → Value → Prop} {St : Nat → Shared → Prop} {I0 : Shared → Prop} {Iv : Nat → Value → Value → Shared → Prop} {Ix : Nat → Value → Value → Value → Value → Shared → Prop}
end
section
variable {prog : Program} {w : World} {A : Around} {E : Value → Shared → Prop} {s : Shared}
end
end Dl
namespace Dl
open PySem L2 PySem.W
section
variable {X : Cx} {k : Nat} {f : Addr} {fd : FuncData} {ps : List Str}
end
end Dl
namespace Dl
open PySem L2 PySem.W
section
variable {X : Cx} {W : WX} {k : Nat} {f : Addr} {fd : FuncData} {ps : List Str}
end
end Dl
namespace Dl
open PySem L2
section
variable {X : Cx} {W : WX} {b : Expr} {p1 pos : Pos} {g : FE D}
end
end Dl
noncomputable section
namespace Pk
open PySem Dl
end Pk
namespace Dl
open PySem L2 PySem.Spec PyProof.Rows
section
variable {P : Program} {w : World} {A : Around} {E : Value → Shared → Prop} {s : Shared}
end
def intsD : List D → Option (List Int)
  | [] => some []
  | .int i :: ds => (intsD ds).map (i :: ·)
  | _ :: _ => none
theorem intsD_map : ∀ ns : List Int, intsD (ns.map D.int) = some ns
  | [] => rfl
  | n :: ns => by rw [List.map_cons, intsD, intsD_map ns]; rfl
theorem intsD_inv : ∀ {ds : List D} {ns : List Int}, intsD ds = some ns → ds = ns.map D.int
  | [], _, h => by cases h; rfl
  | .int i :: ds, ns, h => by
    rw [intsD] at h
    cases q : intsD ds with
    | none => rw [q] at h; cases h
    | some m => rw [q] at h; cases h; rw [intsD_inv q]; rfl
  | .non :: _, _, h => by cases h
  | .bl _ :: _, _, h => by cases h
  | .str _ :: _, _, h => by cases h
  | .tup _ :: _, _, h => by cases h
  | .lst _ :: _, _, h => by cases h
  | .obj _ _ :: _, _, h => by cases h
  | .dcK _ :: _, _, h => by cases h
  | .dcN _ :: _, _, h => by cases h
theorem reps_ints_inv {K : PySem.W.Frag} {mg : MG} {G : Hp} : ∀ (ns : List Int) {us : List V}, Reps K mg G (ns.map D.int) us → us = ns.map V.int
  | [], us, r => by
    cases us with
    | nil => rfl
    | cons u us => rw [List.map_nil] at r; simp [Reps] at r
  | n :: ns, us, r => by
    cases us with
    | nil => rw [List.map_cons] at r; simp [Reps] at r
    | cons u us =>
      rw [List.map_cons, reps_cons] at r
      obtain ⟨x, xs, e, h1, h2⟩ := r
      cases e
      rw [rep_int.mp h1, reps_ints_inv ns h2]; rfl
section
variable {X : Cx} {W : WX} {a : Expr} {ta : TE} {p1 p2 pos pos' : Pos}
end
end Dl
noncomputable section
namespace Pk
open PySem Dl
end Pk
namespace Dl
open PySem L2 PySem.Spec PyProof.Rows
section
variable {X : Cx} {pins : List (Addr × Obj)} {σ : L2.St} {H : Hp} {s : Shared} {E : Value → Shared → Prop} {a b : Addr} {ep : Nat} {es : NEs} {k : NestedKey}
theorem n_dictSet {Q : Unit → Shared → Prop} {v : V} {r : Value} (hu : X.A.units + 20 < cLine) (I : Inv X pins σ H s) (e : H a = some (dnO a ep es)) (ok : ∀ x ∈ es, NOk X.K H x.1 x.2.1) (hk : NOk X.K H k b) (hl : es.length < sizeLine) (rv : RelV v r)
    (h : ∀ ep' s', Inv X pins σ (L2.upd H a (dnO a ep' (nput es k b v))) s' → Q () s') : wpAny (model X.prog X.w) X.A (dictSet a (.ref b) r) Q E s := by
  obtain ⟨xs, o, ens, rel, hs, hl', ho, hx, hd, dd, _⟩ := n_real I e ok
  have nd : (es.map (·.1)).Nodup := ((I.hok a _ e : ObjOk X.prog X.w H s.heap a (dnO a ep es)).1).2.2.1
  refine wpAny_dictSet_heap (hsz := hl') (by show X.A.units + 8 < cLine; omega) (hk.key I) dd fun h' dd' sb => ?_
  obtain ⟨q, ens', ep', hq, h2, h3, h4, _, h5⟩ := dd'
  refine h ep' _ (d_write I (by rw [e]; exact True.intro) sb ⟨q, hq⟩ ?_)
  refine dn_ok hs (by have := nput_len es k b v; omega) (nput_keys es k b v nd) (rel.put k b rv) (fun x hx' w => ?_) hq h2 h3 h4
  rcases nput_mem hx' with ⟨y, hy, q1, _⟩ | ⟨q1, _⟩
  · rw [← q1]; exact (ok y hy).hs w
  · rw [q1]; exact hk.hs w
end
section
variable {X : Cx}
def tDcN (K : PySem.W.Frag) (wi : TI) (g : TG) (tt : TT) (tk tv : TE) (vs : List Nat) : TE := fun σ H Q => wi σ H fun J H1 => ∀ D, H1 D = none → ∃ W : Nat → Nat → Hp → Prop, (∃ m, W 0 m (L2.upd H1 D (dnO D 0 []))) ∧ ∀ i m H, W i m H →
  (J.stop i H ∧ Q (.ref D) H) ∨ (J.go i H ∧ ∃ Nx : Hp → Prop, (∀ H', Nx H' → ∃ m', m' < m ∧ W (i + 1) m' H') ∧ ∀ x H', J.yld i H x H' → g x (L2.wipe σ vs) H' fun σ2 H2 => L2.wipe σ2 vs = L2.wipe σ vs ∧ tt σ2 H2 fun b H3 =>
    if b = true then tk σ2 H3 fun y H4 => tv σ2 H4 fun z H5 => ∃ ep es k b, y = .ref b ∧ NAt K H5 D ep es ∧ NOk K H5 k b ∧ es.length < sizeLine ∧ ∀ ep', Nx (L2.upd H5 D (dnO D ep' (nput es k b z))) else Nx H3)
theorem dcN_core {pins : List (Addr × Obj)} {s : Shared} {σ : L2.St} {H : Hp} {Q : VK} {kx vx tg iter : Expr} {ifs : List Expr} {scope : Scope} {own : List (Str × Nat)} {pos pos' : Pos} {wi : TI} {g : TG} {tt : TT} {tk tv : TE} {use : Option (Value → Sem Unit)} {Qf : Value → Shared → Prop}
    (hu : X.A.units + 20 < cLine) (hc : X.calm = true) (hN : X.N.Nodup) (I : Inv X pins σ H s) (hi : PI X tg iter wi) (ok : BlkOk X.N X.env.scope scope own)
    (hg : ∀ (s : Shared) (H : Hp) (C : Addr) (cl : List (Str × Addr)) (fp : List Addr), PG (X.blk s H scope (compEnvC scope cl C X.env) fp) tg g) (ht : ∀ (s : Shared) (H : Hp) (C : Addr) (cl : List (Str × Addr)) (fp : List Addr), PTs (X.blk s H scope (compEnvC scope cl C X.env) fp) ifs tt)
    (hk : ∀ (s : Shared) (H : Hp) (C : Addr) (cl : List (Str × Addr)) (fp : List Addr), PE (X.blk s H scope (compEnvC scope cl C X.env) fp) kx tk)
    (he : ∀ (s : Shared) (H : Hp) (C : Addr) (cl : List (Str × Addr)) (fp : List Addr), PE (X.blk s H scope (compEnvC scope cl C X.env) fp) vx tv) (hs : ∀ x, foldedSetIterable iter X.env x = pure x)
    (h : tDcN X.K wi g tt tk tv (own.map (·.2)) σ H Q)
    (hRR : ∀ D C s' m H', Inv X pins σ H' s' → Q (.ref D) H' → s'.heap.Ns C m → FpOk X pins H' C → compPost (model X.prog X.w) X.A X.xe use Qf (.ref D) C (.ok .next) s') :
    wpAny (model X.prog X.w) X.A (comprehension (.DictComp kx vx [⟨tg, iter, ifs, 0⟩] scope pos) scope X.env pos' newDict false (eval iter X.env) use) Qf X.xe s := by
  have hfree : ∀ y ∈ scope.names, y.2 = .free → ∃ c, X.env.cells.lookup y.1 = some c := fun y hy e => by
    rcases ok.free y hy e with k | k
    · exact I.ok.has _ (.inl k)
    · exact I.ok.has _ (.inr k)
  refine wpAny_comprehension_free (use := use) rfl hs (closure_ok hfree) ok.kind (fun y hy e => by rw [ok.uniq y hy, e])
    (thn (hi.run pins s σ H _ I h) fun xv s1 hx => thn hx fun itv s2 h2 => ?_)
  obtain ⟨it, fp, tn, J, H2, e, I2, T, st2, f2, q⟩ := h2
  subst e
  refine wpAny_newObj_type (newEnv_comp ?_)
  generalize hD : s2.heap.objs.size = D
  have hDn : H2 D = none := I2.hok.fresh (Nat.le_of_eq hD)
  obtain ⟨W, ⟨m0, w0⟩, turn⟩ := q D hDn
  -- the new list
  generalize hs3 : ({ s2 with heap := s2.heap.push { cls := .type "dict", data := .dict #[] } } : Shared) = s3
  have I3 : Inv X pins σ (L2.upd H2 D (dnO D 0 [])) s3 := by
    rw [← hs3]
    rw [← hD]
    refine I2.laid (t' := s2.toks) (fun b o e => Heap.get?_push_of_some _ e) (Nat.le_refl _) ?_
    exact dn_empty s2.heap I2.big
  have h3 : s3.heap = s2.heap.push { cls := .type "dict", data := .dict #[] } := by rw [← hs3]
  have sz : ∀ b ∈ fp, b < s2.heap.objs.size := fun b hb => by
    obtain ⟨o, e, _⟩ := T.obj _ _ st2 b hb
    exact Heap.lt_size e
  have f3 : ∀ b ∈ fp, FpOk X pins (L2.upd H2 D (dnO D 0 [])) b ∧ b < s3.heap.objs.size := fun b hb => by
    have hlt := sz b hb
    refine ⟨⟨?_, (f2 b hb).2⟩, by rw [h3, Heap.size_push]; exact Nat.lt_succ_of_lt hlt⟩
    rw [upd_ne (by rw [← hD]; exact Nat.ne_of_lt hlt)]
    exact (f2 b hb).1
  have st3 : tn 0 s3.heap := T.keep _ _ _ st2 fun b _ o e => by rw [h3]; exact Heap.get?_push_of_some _ e
  have I4 := block_start I3 ok hN f3
  have pg := hg s3 (L2.upd H2 D (dnO D 0 [])) s3.heap.objs.size (cellsFrom (s3.heap.objs.size + 1) scope.names (cloFrom X.env.cells scope.names [])) fp
  have pt := ht s3 (L2.upd H2 D (dnO D 0 [])) s3.heap.objs.size (cellsFrom (s3.heap.objs.size + 1) scope.names (cloFrom X.env.cells scope.names [])) fp
  have pk := hk s3 (L2.upd H2 D (dnO D 0 [])) s3.heap.objs.size (cellsFrom (s3.heap.objs.size + 1) scope.names (cloFrom X.env.cells scope.names [])) fp
  have pe := he s3 (L2.upd H2 D (dnO D 0 [])) s3.heap.objs.size (cellsFrom (s3.heap.objs.size + 1) scope.names (cloFrom X.env.cells scope.names [])) fp
  show codeAny _ _ (.compStart (.DictComp kx vx [⟨tg, iter, ifs, 0⟩] scope pos) 0 (.ref it) (.ref D) (compEnvC scope (cellsFrom (s3.heap.objs.size + 1) scope.names (cloFrom X.env.cells scope.names [])) s3.heap.objs.size X.env)) (compPost (model X.prog X.w) X.A X.xe use Qf (.ref D) s3.heap.objs.size) { s3 with heap := pushCells (s3.heap.push { cls := .type "dict", data := .dict #[] }) scope.names }
  have nfp : ∀ b ∈ fp, (L2.upd H2 D (dnO D 0 [])) b = none := fun b hb => (f3 b hb).1.1
  generalize hce : compEnvC scope (cellsFrom (s3.heap.objs.size + 1) scope.names (cloFrom X.env.cells scope.names [])) s3.heap.objs.size X.env = ce at I4 pg pt pk pe ⊢
  have cL : ce.locals = s3.heap.objs.size := by subst hce; rfl
  generalize hH3 : L2.upd H2 D (dnO D 0 []) = H3 at I3 I4 pg pt pk pe w0 nfp f3
  generalize hs4 : ({ s3 with heap := pushCells (s3.heap.push { cls := .type "dict", data := .dict #[] }) scope.names } : Shared) = s4 at I4 ⊢
  have st4 : tn 0 s4.heap := T.keep _ _ _ st3 fun b _ o e => by rw [← hs4]; exact pushCells_keeps _ _ _ _ (Heap.get?_push_of_some _ e)
  have stat : ∀ {σ' : L2.St} {H' : Hp} {s' : Shared}, Inv (X.blk s3 H3 scope ce fp) [] σ' H' s' → (∀ b ∈ fp, H' b = none) → ∀ b ∈ fp, FpOk (X.blk s3 H3 scope ce fp) [] H' b := fun {σ' H' s'} I' hn b hb =>
    ⟨hn b hb, (I'.ok.exf b hb).1, I'.ok.exfs b hb, .inl hb, fun x c e => (I'.ok.exf b hb).2 x c e, fun p hp => absurd (show p ∈ ([] : List (Addr × Obj)) ++ [] from hp) (by simp)⟩
  have loop : codeAny (model X.prog X.w) X.A (.compLoop (.DictComp kx vx [⟨tg, iter, ifs, 0⟩] scope pos) 0 (.ref it) (.ref D) ce) (compPost (model X.prog X.w) X.A X.xe use Qf (.ref D) s3.heap.objs.size) s4 := by
    refine compLoop_anyD (fun n s' => ∃ i H', Inv (X.blk s3 H3 scope ce fp) [] (wipe σ (own.map (·.2))) H' s' ∧ tn i s'.heap ∧ (∀ b ∈ fp, H' b = none) ∧ W i n H') ?_ m0 ⟨0, H3, I4, st4, nfp, w0⟩
    rintro n s5 ⟨i, H5, I5, st5, n5, w5⟩
    rcases turn i n H5 w5 with ⟨stop, qq⟩ | ⟨go, Nx, hNx, step⟩
    · have td := T.done (X.blk s3 H3 scope ce fp) rfl rfl rfl hc i [] s5 _ H5 (fun _ _ => False) I5 (stat I5 n5) st5 stop
      refine thnF td fun r s6 ⟨hr, I6⟩ => ?_
      subst hr
      -- back in the def's context
      have I7 : Inv X pins σ H5 s6 := I3.call' (ch := fp) I6.os I6.base I6.hok I6.bare fun b hb => ⟨(f3 b hb).1.2.2.2.1, (f3 b hb).1.2.1, (f3 b hb).1.2.2.2.2.1, (f3 b hb).1.2.2.2.2.2⟩
      have nC : H5 s3.heap.objs.size = none := by
        have z : H5 ce.locals = none := I6.free
        rw [cL] at z
        exact z
      obtain ⟨m, hn, _⟩ := I6.loc
      have hn : s6.heap.Ns ce.locals m := hn
      rw [cL] at hn
      exact hRR D s3.heap.objs.size s6 m H5 I7 qq hn (I3.fpOk (Nat.le_refl _) nC)
    · have ti := T.item (X.blk s3 H3 scope ce fp) rfl rfl rfl hc i [] s5 _ H5 (fun _ _ => False) I5 (stat I5 n5) st5 go
      refine thnF ti fun r s6 ⟨u, hr, h6⟩ => ?_
      subst hr
      refine thnF h6 fun _ s7 ⟨x, H7, I7, r7, y7, st7, n7⟩ => ?_
      have I7' := I7.pinned (stat I7 n7) (T.obj _ _ st7)
      refine thnF (pg.run _ s7 _ H7 x u _ I7' r7 (step x H7 y7)) fun _ s8 ⟨σ8, H8, I8, hw8, q8⟩ => ?_
      refine thnF (pt.run _ s8 σ8 H8 _ I8 q8) fun b s9 ⟨H9, I9, q9⟩ => ?_
      -- the turn's end
      have fin : ∀ {s' : Shared} {H' : Hp}, Inv (X.blk s3 H3 scope ce fp) ([] ++ pinsAt fp s7.heap) σ8 H' s' → Nx H' → ∃ m, m < n ∧ ∃ i H', Inv (X.blk s3 H3 scope ce fp) [] (wipe σ (own.map (·.2))) H' s' ∧ tn i s'.heap ∧ (∀ b ∈ fp, H' b = none) ∧ W i m H' := fun {s' H'} I' nx => by
        obtain ⟨m', hm, w'⟩ := hNx H' nx
        have pin' : ∀ b ∈ fp, ∀ o, s7.heap.get? b = some o → s'.heap.get? b = some o ∧ H' b = none := fun b hb o e =>
          let z := I'.pin (b, o) (List.mem_append_right _ (List.mem_append_right _ (mem_pinsAt hb e)))
          ⟨z.1, z.2.1⟩
        have hl : (wipe σ (own.map (·.2))).length = σ8.length := by rw [← hw8, wipe_length]
        refine ⟨m', hm, i + 1, H', (I'.unpinned (pins := [])).weak hl (fun j v e => ?_), T.keep _ _ _ st7 fun b hb o e => (pin' b hb o e).1, fun b hb => ?_, w'⟩
        · rw [← hw8] at e
          exact (wipe_some e).1
        · obtain ⟨o, e, _⟩ := T.obj _ _ st7 b hb
          exact (pin' b hb o e).2
      cases b with
      | false =>
        simp only [Bool.false_eq_true, if_false] at q9 ⊢
        exact fin I9 q9
      | true =>
        simp only [if_true] at q9 ⊢
        refine thnF (pk.run _ s9 σ8 H9 _ I9 q9) fun z s10 ⟨yk, H10, I10, r10, q10⟩ => ?_
        refine thnF (pe.run _ s10 σ8 H10 _ I10 q10) fun z2 s11 ⟨yv, H11, I11, r11, ep, es, k, b, ek, na, nb, hz11, nx⟩ => ?_
        subst ek
        obtain rfl : z = Value.ref b := r10
        exact n_dictSet (X := X.blk s3 H3 scope ce fp) hu I11 na.at_ na.ok nb hz11 r11 fun ep' s12 I12 => fin I12 (nx ep')
  exact codeAny_compStart_dict loop (T.self X.A 0 _ _ _ st4 loop)
theorem pe_dcN {kx vx tg iter : Expr} {ifs : List Expr} {scope : Scope} {own : List (Str × Nat)} {pos : Pos} {wi : TI} {g : TG} {tt : TT} {tk tv : TE} (hu : X.A.units + 20 < cLine) (hc : X.calm = true) (hN : X.N.Nodup) (hi : PI X tg iter wi) (ok : BlkOk X.N X.env.scope scope own)
    (hg : ∀ (s : Shared) (H : Hp) (C : Addr) (cl : List (Str × Addr)) (fp : List Addr), PG (X.blk s H scope (compEnvC scope cl C X.env) fp) tg g) (ht : ∀ (s : Shared) (H : Hp) (C : Addr) (cl : List (Str × Addr)) (fp : List Addr), PTs (X.blk s H scope (compEnvC scope cl C X.env) fp) ifs tt)
    (hk : ∀ (s : Shared) (H : Hp) (C : Addr) (cl : List (Str × Addr)) (fp : List Addr), PE (X.blk s H scope (compEnvC scope cl C X.env) fp) kx tk)
    (he : ∀ (s : Shared) (H : Hp) (C : Addr) (cl : List (Str × Addr)) (fp : List Addr), PE (X.blk s H scope (compEnvC scope cl C X.env) fp) vx tv) (hs : ∀ x, foldedSetIterable iter X.env x = pure x := by intro _; rfl) :
    PE X (.DictComp kx vx [⟨tg, iter, ifs, 0⟩] scope pos) (tDcN X.K wi g tt tk tv (own.map (·.2))) := by
  refine ⟨fun pins s σ H Q I h => ?_⟩
  rw [arm_eval_DictComp]
  refine dcN_core hu hc hN I hi ok hg ht hk he hs h fun D C s' m H' I' q hn f => ⟨m, hn, fun h'' sb => ?_⟩
  obtain ⟨f0, f1, f2, f3, f4, f5⟩ := f
  exact ⟨.ref D, H', I'.turned (t' := s'.toks) (fun b o hb e => (sb.2 b hb).trans e) f0 f1 f3 f4 f5, rfl, q⟩
end
end Dl
namespace Dl
open PySem L2
section
variable {K : PySem.W.Frag} {mg : MG}
structure LiesN (K : PySem.W.Frag) (mg : MG) (G0 : Hp) (α0 : List Addr) (H0 : Hp) (L : Addr) (G : Hp) (α : List Addr) (ω : Om) (acc : KVs) (H : Hp) : Prop where
  ext : Ext G0 α0 H0 G α H
  own : Own K mg G α ω H
  gl : G L = none
  na : L ∉ α
  at_ : ∃ ep es, H L = some (dnO L ep es) ∧ RepN K mg G acc es
theorem LiesN.step {G0 H0 G H G1 H1 : Hp} {α0 α α1 : List Addr} {L : Addr} {ω ω1 : Om} {acc : KVs} (B : LiesN K mg G0 α0 H0 L G α ω acc H) (e : Ext G α H G1 α1 H1) (O : Own K mg G1 α1 ω1 H1) : LiesN K mg G0 α0 H0 L G1 α1 ω1 acc H1 := by
  obtain ⟨ep, vsa, h1, h2⟩ := B.at_
  obtain ⟨more, e1, e2⟩ := e.pre
  refine ⟨B.ext.trans e, O, ?_, ?_, ep, vsa, e.keep L _ h1 B.na, RepN.mono e.g _ _ h2⟩
  · cases q : G1 L with
    | none => rfl
    | some o =>
      rcases e.new L o q with z | z | z
      · rw [B.gl] at z; cases z
      · rw [h1] at z; cases z
      · exact absurd z B.na
  · rw [e1]
    intro z
    rcases List.mem_append.mp z with z | z
    · exact B.na z
    · rw [e2 L z] at h1; cases h1
theorem LiesN.set {G0 H0 G H : Hp} {α0 α : List Addr} {L : Addr} {ω : Om} {acc acc' : KVs} {ep : Nat} {kv : NEs} (B : LiesN K mg G0 α0 H0 L G α ω acc H) (h0 : H0 L = none) (r : RepN K mg G acc' kv) : LiesN K mg G0 α0 H0 L G α ω acc' (L2.upd H L (dnO L ep kv)) :=
  ⟨B.ext.setL h0, B.own.setL B.gl B.na, B.gl, B.na, ep, kv, upd_same, r⟩
theorem LiesN.freeze {G0 H0 G H : Hp} {α0 α : List Addr} {L : Addr} {ω : Om} {acc : KVs} (B : LiesN K mg G0 α0 H0 L G α ω acc H) (h0 : H0 L = none) : ∃ G', Ext G0 α0 H0 G' α H ∧ Own K mg G' α ω H ∧ Rep K mg G' (.dcN acc) (.ref L) := by
  obtain ⟨ep, vsa, h1, h2⟩ := B.at_
  have sg : Same G (L2.upd G L (dnO L ep vsa)) := Same.upd B.gl
  refine ⟨L2.upd G L (dnO L ep vsa), ⟨B.ext.g.trans sg, fun a o h => ?_, B.ext.keep, B.ext.live, B.ext.pre⟩, ⟨fun b u h => ?_, B.own.len, B.own.nd, B.own.ex, fun k u a h3 h4 => ?_⟩, rep_dcN.mpr ⟨L, ep, vsa, rfl, upd_same, RepN.mono sg _ _ h2⟩⟩
  · by_cases z : a = L
    · subst z; exact .inr (.inl h0)
    · rw [upd_ne z] at h; exact B.ext.new a o h
  · by_cases z : b = L
    · subst z; rw [upd_same] at h; cases h; exact h1
    · rw [upd_ne z] at h; exact B.own.sub b u h
  · obtain ⟨q1, q2⟩ := B.own.obj k u a h3 h4
    have : a ≠ L := fun z => B.na (by rw [← z]; exact List.mem_of_getElem? h4)
    exact ⟨by rw [upd_ne this]; exact q1, q2.mono sg rfl⟩
def dcnL (tg : FG) (tt : FE Bool) (fk fv : FE D) (ρ : Rho) : List D → KVs → Om → Res D
  | [], acc, ω => .ok (.dcN acc) ω
  | d :: ds, acc, ω => match tg d ρ with
    | none => .stuck
    | some ρ1 => match tt ρ1 ω with
      | .ok true ω1 => match fk ρ1 ω1 with
        | .ok y ω2 => match fv ρ1 ω2 with
          | .ok z ω3 => if isKey y = true ∧ acc.length < lim then dcnL tg tt fk fv ρ ds (dnPut acc y z) ω3 else .stuck
          | _ => .stuck
        | _ => .stuck
      | .ok false ω1 => dcnL tg tt fk fv ρ ds acc ω1
      | _ => .stuck
def eDcN (vs : List Nat) (it : FE (List D)) (tg : FG) (tt : FE Bool) (fk fv : FE D) : FE D := fun ρ ω => (it ρ ω).bind fun ds ω1 => dcnL tg tt fk fv (wipeR ρ vs) ds [] ω1
theorem dcN_post {tg : TG} {fg : FG} {is vs : List Nat} {tt : TT} {ft : FE Bool} {tk tv : TE} {fk fv : FE D} {J : It} {ds : List D} {G0 H : Hp} {α0 : List Addr} {ρ : Rho} {ω : Om} {σ : St} {Q : VK} {E : XK} (hsub : ∀ i ∈ is, i ∈ vs)
    (kg : ∀ G α ρ σ H d v (Q : St → Hp → Prop), Same G H → Slots K mg G α ρ σ → Rep K mg G d v →
      (match fg d ρ with
        | none => False
        | some ρ' => ∀ σ', Slots K mg G α ρ' σ' → (∀ j, j ∉ is → σ'[j]? = σ[j]?) → σ'.length = σ.length → Q σ' H) → tg v σ H Q)
    (kt : ∀ G α ρ ω σ H Q, Own K mg G α ω H → Slots K mg G α ρ σ → Post K mg RB G α H Q (fun _ _ _ => False) (ft ρ ω) → tt σ H Q)
    (kk : ∀ G α ρ ω σ H Q, Own K mg G α ω H → Slots K mg G α ρ σ → Post K mg (RD K mg) G α H Q (fun _ _ _ => False) (fk ρ ω) → tk σ H Q)
    (kv : ∀ G α ρ ω σ H Q, Own K mg G α ω H → Slots K mg G α ρ σ → Post K mg (RD K mg) G α H Q (fun _ _ _ => False) (fv ρ ω) → tv σ H Q)
    (wk : WalkD K mg (fun G' _ => Same G0 G') J ds) (O : Own K mg G0 α0 ω H) (S : Slots K mg G0 α0 ρ σ) (P : Post K mg (RD K mg) G0 α0 H Q E (dcnL fg ft fk fv (wipeR ρ vs) ds [] ω)) (L : Addr) (hL : H L = none) :
    ∃ Wv : Nat → Nat → Hp → Prop, (∃ m, Wv 0 m (L2.upd H L (dnO L 0 []))) ∧ ∀ i m H, Wv i m H →
      (J.stop i H ∧ Q (.ref L) H) ∨ (J.go i H ∧ ∃ Nx : Hp → Prop, (∀ H', Nx H' → ∃ m', m' < m ∧ Wv (i + 1) m' H') ∧ ∀ x H', J.yld i H x H' → tg x (L2.wipe σ vs) H' fun σ2 H2 => L2.wipe σ2 vs = L2.wipe σ vs ∧ tt σ2 H2 fun b H3 =>
        if b = true then tk σ2 H3 fun y H4 => tv σ2 H4 fun z H5 => ∃ ep es k b, y = .ref b ∧ NAt K H5 L ep es ∧ NOk K H5 k b ∧ es.length < sizeLine ∧ ∀ ep', Nx (L2.upd H5 L (dnO L ep' (nput es k b z))) else Nx H3) := by
  have hnα : L ∉ α0 := fun z => by obtain ⟨o, h⟩ := O.ex L z; rw [hL] at h; cases h
  refine ⟨fun i m H' => m = ds.length - i ∧ i ≤ ds.length ∧ ∃ G α ω acc, LiesN K mg G0 α0 H L G α ω acc H' ∧ Post K mg (RD K mg) G0 α0 H Q E (dcnL fg ft fk fv (wipeR ρ vs) (ds.drop i) acc ω), ⟨_, rfl, Nat.zero_le _, G0, α0, ω, [], ⟨?_, ?_, O.sub.free hL, hnα, 0, [], upd_same, repN_nil.mpr rfl⟩, P⟩, ?_⟩
  · exact (Grow.side (o := dnO L 0 []) O.sub hL).ext
  · exact O.grow (Grow.side O.sub hL)
  rintro i m H' ⟨rfl, hi, G, α, ω, acc, B, P⟩
  obtain ⟨w1, w2⟩ := wk i G H' B.own.sub B.ext.g
  by_cases hlt : i < ds.length
  · refine .inr ?_
    obtain ⟨go, yl⟩ := w1 ds[i] (List.getElem?_eq_getElem hlt)
    refine ⟨go, fun H' => ∃ G α ω acc, LiesN K mg G0 α0 H L G α ω acc H' ∧ Post K mg (RD K mg) G0 α0 H Q E (dcnL fg ft fk fv (wipeR ρ vs) (ds.drop (i + 1)) acc ω), fun H' q => ⟨ds.length - (i + 1), by omega, rfl, hlt, q⟩, fun x H1 y => ?_⟩
    obtain ⟨G1, gr, r1⟩ := yl x H1 y
    have B1 := B.step (gr.ext (α := α)) (B.own.grow gr)
    rw [List.drop_eq_getElem_cons hlt] at P
    unfold dcnL at P
    have S1 : Slots K mg G1 α (wipeR ρ vs) (L2.wipe σ vs) := (S.mono B1.ext).wipe vs
    refine kg G1 α _ _ H1 _ x _ B1.own.sub S1 r1 ?_
    cases q : fg ds[i] (wipeR ρ vs) with
    | none => rw [q] at P; exact P.elim
    | some ρ1 =>
      rw [q] at P
      intro σ2 S2 c2 l2
      refine ⟨wipe_same hsub c2 l2, kt G1 α ρ1 ω σ2 H1 _ B1.own S2 ?_⟩
      dsimp only at P
      cases q2 : ft ρ1 ω with
      | stuck => rw [q2] at P; exact P.elim
      | exc x ω1 => rw [q2] at P; exact P.elim
      | ok b ω1 =>
        rw [q2] at P
        intro b' G2 α2 H2 e2 O2 r2
        cases r2
        have B2 := B1.step e2 O2
        cases b with
        | false => exact iteF ⟨G2, α2, ω1, acc, B2, P⟩
        | true =>
          refine iteT (kk G2 α2 ρ1 ω1 σ2 H2 _ O2 (S2.mono e2) ?_)
          dsimp only at P
          cases q3 : fk ρ1 ω1 with
          | stuck => rw [q3] at P; exact P.elim
          | exc x ω2 => rw [q3] at P; exact P.elim
          | ok yd ω2 =>
            rw [q3] at P
            dsimp only at P
            intro v G3 α3 H3 e3 O3 r3
            have B3 := B2.step e3 O3
            refine kv G3 α3 ρ1 ω2 σ2 H3 _ O3 ((S2.mono e2).mono e3) ?_
            cases q4 : fv ρ1 ω2 with
            | stuck => rw [q4] at P; exact P.elim
            | exc x ω3 => rw [q4] at P; exact P.elim
            | ok zd ω3 =>
              rw [q4] at P
              dsimp only at P
              intro u G4 α4 H4 e4 O4 r4
              have B4 := B3.step e4 O4
              split at P
              · rename_i hc
                obtain ⟨ok, ht⟩ := isKey_eq hc.1
                obtain ⟨ep, kva, h5, h6⟩ := B4.at_
                obtain ⟨b, rfl, hb, rb⟩ := rep_key O4.sub ok ht (Rep.mono e4.g _ _ r3)
                exact ⟨ep, kva, nk yd, b, rfl, ⟨h5, repN_ok O4.sub h6⟩, hb, by rw [repN_len h6, lim_eq]; exact hc.2, fun ep' => ⟨G4, α4, ω3, dnPut acc yd zd, B4.set hL (repN_put ok rb r4 h6), P⟩⟩
              · exact P.elim
  · have e : i = ds.length := by omega
    subst e
    rw [List.drop_length] at P
    obtain ⟨G', e', O', r'⟩ := B.freeze hL
    exact .inl ⟨w2 (Nat.le_refl _), P _ G' α H' e' O' r'⟩
end
section
variable {X : Cx} {W : WX} {pos : Pos}
theorem dcN_read {K : PySem.W.Frag} {mg : MG} {wi : TI} {vs is : List Nat} {fi : FE (List D)} {fg : FG} {ft : FE Bool} {fk fv : FE D} (hsub : ∀ i ∈ is, i ∈ vs)
    (ki : ∀ G α ρ ω σ H (R : It → Hp → Prop), Own K mg G α ω H → Slots K mg G α ρ σ → Post K mg (RI K mg) G α H R (fun c d H' => W c d σ H') (fi ρ ω) → wi σ H R)
    (G α ρ ω σ H Q) (O : Own K mg G α ω H) (S : Slots K mg G α ρ σ) (P : Post K mg (RD K mg) G α H Q (fun c d H' => W c d σ H') (eDcN vs fi fg ft fk fv ρ ω)) : tDcN K wi (tcG K mg is fg) (tcT K mg W0 ft) (tcE K mg W0 fk) (tcE K mg W0 fv) vs σ H Q := by
  refine Post.step (t := wi σ H) (ki G α ρ ω σ H · O S) P fun ds ω1 J G1 α1 H1 e1 O1 w1 P1 => ?_
  intro L hL
  exact dcN_post hsub (fun G α ρ σ H d v Q s S r h => ⟨G, α, ρ, d, s, S, r, h⟩) (fun G α ρ ω σ H Q O S P => ⟨G, α, ρ, ω, O, S, P⟩) (fun G α ρ ω σ H Q O S P => ⟨G, α, ρ, ω, O, S, P⟩) (fun G α ρ ω σ H Q O S P => ⟨G, α, ρ, ω, O, S, P⟩) w1 O1 (S.mono e1) P1 L hL
theorem de_dcN {kx vx tg iter : Expr} {ifs : List Expr} {scope : Scope} {own : List (Str × Nat)} {is : List Nat} {fi : FE (List D)} {fg : FG} {ft : FE Bool} {fk fv : FE D} (hr : Room 0 X.A) (hc : X.calm = true) (hN : X.N.Nodup) (hi : Di X W tg iter fi) (ok : BlkOk X.N X.env.scope scope own)
    (hg : ∀ (s : Shared) (H : Hp) (C : Addr) (cl : List (Str × Addr)) (fp : List Addr), Dg (X.blk s H scope (compEnvC scope cl C X.env) fp) tg is fg) (ht : ∀ (s : Shared) (H : Hp) (C : Addr) (cl : List (Str × Addr)) (fp : List Addr), Dts (X.blk s H scope (compEnvC scope cl C X.env) fp) W0 ifs ft)
    (hk : ∀ (s : Shared) (H : Hp) (C : Addr) (cl : List (Str × Addr)) (fp : List Addr), De (X.blk s H scope (compEnvC scope cl C X.env) fp) W0 kx fk)
    (he : ∀ (s : Shared) (H : Hp) (C : Addr) (cl : List (Str × Addr)) (fp : List Addr), De (X.blk s H scope (compEnvC scope cl C X.env) fp) W0 vx fv) (hsub : ∀ i ∈ is, i ∈ own.map (·.2)) (hs : ∀ x, foldedSetIterable iter X.env x = pure x := by intro _; rfl) :
    De X W (.DictComp kx vx [⟨tg, iter, ifs, 0⟩] scope pos) (eDcN (own.map (·.2)) fi fg ft fk fv) := by
  obtain ⟨wi, pi, ki⟩ := hi
  exact ⟨_, pe_dcN (by have := hr.un; omega) (g := tcG X.K X.mg is fg) (tt := tcT X.K X.mg W0 ft) (tk := tcE X.K X.mg W0 fk) (tv := tcE X.K X.mg W0 fv) hc hN pi ok (fun s H C cl fp => can_g (hg s H C cl fp)) (fun s H C cl fp => can_ts (ht s H C cl fp)) (fun s H C cl fp => can_e (hk s H C cl fp)) (fun s H C cl fp => can_e (he s H C cl fp)) hs, dcN_read hsub ki⟩
end
end Dl
namespace Dl
open PySem L2 PySem.Spec PyProof.Rows
section
variable {X : Cx} {W : WX} {a : Expr} {ta : TE} {p1 p2 pos pos' : Pos}
end
end Dl
namespace Dl
open PySem L2 PySem.Spec PyProof.Rows
section
variable {X : Cx}
end
end Dl
noncomputable section
namespace Pk
open PySem Dl
def bd_all_counts_1 : FS :=
  (sSeq (sAsg (eCallP F_body (aCons (aVal (eVar 0)) (aCons (aVal (eVar 8)) (aCons (aVal (eTup (aCons (aVal (eVar 3)) (aCons (aVal (eVar 9)) aNil)))) aNil)))) (gT 2 (gsCons (gN 10) (gsCons (gN 11) gsNil))))
    (sIf (eTest (eBin opGe (eVar 10) (eVar 6))) (sNPut 4 (eTup (aCons (aVal (eTup (aStar (eSl (eVar 5) eNoPart (ePart (eVar 7))) (aCons (aVal (eBin opAdd (eIx (eVar 5) (eVar 7)) (eC (.int 1)))) (aStar (eSl (eVar 5) (ePart (eBin opAdd (eVar 7) (eC (.int 1)))) eNoPart) aNil))))) (aCons (aVal (eVar 11)) aNil))) (eC (.bl true))) sNext))
def bd_all_counts_2 : FS :=
  (sFor (eIt1 itSeq (eCallP F_stands_of (aCons (aVal (eVar 8)) aNil))) (gN 9)
    bd_all_counts_1)
def bd_all_counts_3 : FS :=
  (sFor (eIt1 itEn (eVar 1)) (gT 2 (gsCons (gN 7) (gsCons (gN 8) gsNil)))
    bd_all_counts_2)
def bd_all_counts_4 : FS :=
  (sSeq (sSetS 4 (eCopyN (eVar 2)))
    (sSeq (sFor (eIt1 itNKeys (eVar 2)) (gT 2 (gsCons (gN 5) (gsCons (gN 6) gsNil)))
    bd_all_counts_3)
    (sGf 4 (sSet 2 (eVar 4)))))
def lc_all_counts_5 : FE D :=
  (eDcN [5, 6] (eIt1 itNKeys (eVar 2)) (gT 2 (gsCons (gN 5) (gsCons (gN 6) gsNil))) eTrue (eVar 5) (eC (.bl true)))
def f_all_counts : FS :=
  (sSeq (sSet 2 (eNDisp (eTup (aCons (aVal (eBin opMulA (eTup (aCons (aVal (eC (.int 0))) aNil)) (eCallB oLen (aCons (aVal (eVar 1)) aNil)))) (aCons (aVal (eC (.int (-1000)))) aNil))) (eC (.bl true))))
    (sSeq (sFor (eIt1 itR1 (eCallB oLen (aCons (aVal (eFld "Strip" "rows" (eVar 0))) aNil))) (gN 3)
    bd_all_counts_4)
    (sRet lc_all_counts_5)))
def F_all_counts : FnP := fnP 2 12 f_all_counts
def lc_holds_1 : FE D :=
  (eLc [3] (eIt1 itSeq (eVar 2)) (gN 3) eTrue (eCallP F_is_from (aCons (aVal (eVar 3)) (aCons (aVal (eC (.int 0))) (aCons (aVal (eC (.int 9))) aNil)))))
def f_holds : FS :=
  (sSeq (sExpr (eCallP F_check_plugs_2 (aCons (aVal (eVar 1)) (aCons (aVal (eC (.int 3))) aNil))))
    (sSeq (sIf (eOrT (eNotT (eTest (eIsi "tuple" (eVar 2)))) (eTest (eBin opNe (eCallB oLen (aCons (aVal (eVar 2)) aNil)) (eCallB oLen (aCons (aVal (eVar 1)) aNil))))) (sRaise "BadCounts") sNext)
    (sSeq (sIf (eNotT (eTest (eOnL oAllL (eLst lc_holds_1)))) (sRaise "BadCounts") sNext)
    (sRet (eBin (opIn2 false) (eVar 2) (eCallP F_all_counts (aCons (aVal (eVar 0)) (aCons (aVal (eVar 1)) aNil))))))))
def F_holds : FnP := fnP 3 4 f_holds
end Pk
namespace Dl
open PySem L2
end Dl
noncomputable section
namespace Pk
open PySem Dl
def lc_is_within_1 : FE D :=
  (eLc [2, 3] (eIt2 itZ (eVar 0) (eVar 1)) (gT 2 (gsCons (gN 2) (gsCons (gN 3) gsNil))) eTrue (eBin opLe (eVar 2) (eVar 3)))
def f_is_within : FS :=
  (sRet (eOnL oAllL (eLst lc_is_within_1)))
def F_is_within : FnP := fnP 2 4 f_is_within
def lc_fullest_1 : FE D :=
  (eLc [5] (eIt1 itNKeys (eVar 2)) (gN 5) (eAndT (eTest (eBin opNe (eVar 5) (eVar 4))) (eTest (eCallP F_is_within (aCons (aVal (eVar 4)) (aCons (aVal (eVar 5)) aNil))))) (eVar 5))
def bd_fullest_2 : FS :=
  (sIf (eTest (eBin opEq lc_fullest_1 (eList aNil))) (sApp 3 (eVar 4)) sNext)
def f_fullest : FS :=
  (sSeq (sExpr (eCallP F_check_plugs_2 (aCons (aVal (eVar 1)) (aCons (aVal (eC (.int 3))) aNil))))
    (sSeq (sSet 2 (eCallP F_all_counts (aCons (aVal (eVar 0)) (aCons (aVal (eVar 1)) aNil))))
    (sSeq (sNewL 3 aNil)
    (sSeq (sFor (eIt1 itNKeys (eVar 2)) (gN 4)
    bd_fullest_2)
    (sRet (eOnL oSortL (eOwnL 3)))))))
def F_fullest : FnP := fnP 2 6 f_fullest
end Pk
namespace Dl
open PySem L2 PySem.Spec PyProof.Rows
section
variable {X : Cx} {W : WX} {x : Str} {p pos pos' : Pos} {C : Addr}
end
section
variable {P : Program} {w : World} {K : PySem.W.Frag} {mg : Str → Option Value} {base : Heap}
end
section
variable {X : Cx} {W : WX} {k : Nat} {f : Addr} {fd : FuncData} {ps : List Str} {x : Str} {e : Expr} {es : List Expr} {p pos : Pos} {g : FE (List SV)}
end
section
variable {X : Cx} {W : WX} {x : Str} {p pos pos' : Pos} {C : Addr} {f : Addr} {k : Nat} {fd : FuncData} {ps fls : List Str} {e : Expr} {es : List Expr} {g : FE (List SV)}
end
section
variable {P : Program} {w : World} {K : PySem.W.Frag} {mg : MG} {base : Heap}
end
section
variable {X : Cx} {W : WX} {nms : List Str} {c : Str} {C : Addr} {body suite : List Stmt} {b₀ : Stmt} {np pos pos' : Pos} {fb fr : FS}
end
end Dl
noncomputable section
namespace Pk
open PySem Dl
end Pk
namespace Dl
open PySem L2 PySem.Spec PyProof.Rows
section
variable {X : Cx} {n m x : Str} {i j : Nat} {body : List Stmt} {c : Value} {pos p1 p2 q1 q2 q3 : Pos} {tb : WX → TS} {Wo : WX}
end
section
variable {X : Cx} {W : WX} {n m c : Str} {i j : Nat} {C : Addr} {nms : List Str} {body : List Stmt} {pos p1 p2 q1 q2 q3 : Pos} {fb : FS}
end
section
variable {X : Cx} {W : WX} {nms : List Str} {i : Nat} {e : Expr} {pos p p1 p2 : Pos} {s : Str} {f : FE SV}
end
section
variable {X : Cx} {W : WX} {e : Expr} {te : TE} {pos : Pos} {n : Str}
end
end Dl
noncomputable section
namespace Pk
open PySem Dl
end Pk
namespace Dl
open PySem L2
section
variable {K : PySem.W.Frag} {mg : MG}
end
section
variable {X : Cx} {W : WX} {o e : Expr} {apos pos : Pos} {f : FE D}
end
section
variable {X : Cx}
end
section
variable {X : Cx} {W : WX} {tg e : Expr} {f : FE D}
end
section
variable {X : Cx} {W : WX} {a b : Expr} {pos : Pos} {f g : FE D}
end
end Dl
namespace Dl
open PySem L2 PySem.SeqAt
open AutoSeq1 (wpAny_loadPart')
section
variable {P : Program} {w : World} {A : Around} {R : Result → Shared → Prop}
end
mutual
theorem Dp.ext {K : PySem.W.Frag} {H H' : Hp} (s : Same H H') : ∀ (d : PyData) (v : V), Dp K H v d → Dp K H' v d
  | .none, _, h => by cases h; exact .non
  | .bool _, _, h => by cases h; exact .bl _
  | .int _, _, h => by cases h; exact .int _
  | .str _, _, h => by cases h; exact .str _
  | .list ds, _, h => by
    cases h with
    | lst q r => exact .lst (SqL.ext q s) (DpAll.ext s ds _ r)
  | .tuple ds, _, h => by
    cases h with
    | tup q r => exact .tup (SqT.ext q s) (DpAll.ext s ds _ r)
  | .dict _, _, h => by cases h
theorem DpAll.ext {K : PySem.W.Frag} {H H' : Hp} (s : Same H H') : ∀ (ds : List PyData) (vs : List V), DpAll K H vs ds → DpAll K H' vs ds
  | [], _, h => by cases h; exact .nil
  | d :: ds, _, h => by
    cases h with
    | cons a b => exact .cons (Dp.ext s d _ a) (DpAll.ext s ds _ b)
end
section
variable {X : Cx} {k : Nat} {f C : Addr} {fd : FuncData} {ps : List Str}
end
end Dl
noncomputable section
namespace Pk
open PySem Dl
end Pk
noncomputable section
namespace Pk
open PySem Dl
end Pk
namespace Dl
open PySem L2
section
variable {X : Cx} {W : WX} {a b : Expr} {pos : Pos} {f g : FE D}
end
end Dl
noncomputable section
namespace Pk
open PySem Dl
end Pk
namespace Dl
open PySem L2
section
variable {X : Cx} {W : WX} {o e : Expr} {fo fe : FE D} {p2 p3 : Pos}
end
end Dl
noncomputable section
namespace Pk
open PySem Dl
end Pk
namespace Dl
open PySem L2 PySem.SeqAt
section
variable {X : Cx} {k : Nat} {C f : Addr} {fd : FuncData} {ps : List Str}
end
end Dl
noncomputable section
namespace Pk
open PySem Dl
end Pk
namespace Dl
open PySem L2
section
variable {X : Cx} {W : WX} {pos p1 : Pos} {b : Expr} {g : FE D}
end
end Dl
noncomputable section
namespace Pk
open PySem Dl
end Pk
namespace Dl
open PySem L2
section
variable {X : Cx} {W : WX} {pos : Pos}
end
end Dl
namespace Dl
open PySem L2 PySem.Spec PyProof.Rows
section
variable {P : Program} {w : World} {A : Around}
end
section
variable {P : Program} {w : World} {A : Around} {E : Value → Shared → Prop} {s : Shared}
end
section
variable {X : Cx} {W : WX}
end
end Dl
namespace Dl
open PySem L2
section
variable {X : Cx} {W : WX}
end
end Dl
noncomputable section
namespace Pk
open PySem Dl
end Pk
namespace Dl
open PySem L2
mutual
def plainD : D → Bool
  | .non => true
  | .bl _ => true
  | .int _ => true
  | .str _ => true
  | .tup ds => plainDs ds
  | .lst ds => plainDs ds
  | _ => false
def plainDs : List D → Bool
  | [] => true
  | d :: ds => plainD d && plainDs ds
end
section
variable {K : PySem.W.Frag} {mg : MG} {G G0 : Hp} {a : Addr}
structure But (a : Addr) (G G0 : Hp) : Prop where
  at_ : ∃ kv, G a = some (.dK kv) ∨ ∃ od, G a = some (.frz od (.dK kv))
  off : ∀ b, b ≠ a → G0 b = G b
theorem But.sqT (h : But a G G0) {b : Addr} {vs : List V} (q : SqT K G b vs) : SqT K G0 b vs := by
  obtain ⟨kv, at_⟩ := h.at_
  have ne : ∀ {u : HO}, G b = some u → (∀ kv, u ≠ .dK kv) → (∀ od kv, u ≠ .frz od (.dK kv)) → b ≠ a := fun {u} e n1 n2 z => by
    subst z
    rcases at_ with at_ | ⟨od, at_⟩
    · rw [at_] at e; cases e; exact n1 _ rfl
    · rw [at_] at e; cases e; exact n2 _ _ rfl
  rcases q with (q | ⟨o, q⟩) | q
  · exact .inl (.inl ((h.off b (ne q (fun _ z => nomatch z) fun _ _ z => nomatch z)).trans q))
  · exact .inl (.inr ⟨o, (h.off b (ne q (fun _ z => nomatch z) fun _ _ z => by cases z)).trans q⟩)
  · exact .inr q
theorem But.sqL (h : But a G G0) {b : Addr} {vs : List V} (q : SqL K G b vs) : SqL K G0 b vs := by
  obtain ⟨kv, at_⟩ := h.at_
  have ne : ∀ {u : HO}, G b = some u → (∀ kv, u ≠ .dK kv) → (∀ od kv, u ≠ .frz od (.dK kv)) → b ≠ a := fun {u} e n1 n2 z => by
    subst z
    rcases at_ with at_ | ⟨od, at_⟩
    · rw [at_] at e; cases e; exact n1 _ rfl
    · rw [at_] at e; cases e; exact n2 _ _ rfl
  rcases q with (q | ⟨o, q⟩) | q
  · exact .inl (.inl ((h.off b (ne q (fun _ z => nomatch z) fun _ _ z => nomatch z)).trans q))
  · exact .inl (.inr ⟨o, (h.off b (ne q (fun _ z => nomatch z) fun _ _ z => by cases z)).trans q⟩)
  · exact .inr q
mutual
theorem But.rep (h : But a G G0) : ∀ (d : D) (v : V), plainD d = true → Rep K mg G d v → Rep K mg G0 d v
  | .non, _, _, r => by rw [rep_non] at *; exact r
  | .bl _, _, _, r => by rw [rep_bl] at *; exact r
  | .int _, _, _, r => by rw [rep_int] at *; exact r
  | .str _, _, _, r => by rw [rep_str] at *; exact r
  | .tup ds, _, p, r => by
    rw [rep_tup] at *
    obtain ⟨b, vs, e, q, r⟩ := r
    exact ⟨b, vs, e, h.sqT q, But.reps h ds vs p r⟩
  | .lst ds, _, p, r => by
    rw [rep_lst] at *
    obtain ⟨b, vs, e, q, r⟩ := r
    exact ⟨b, vs, e, h.sqL q, But.reps h ds vs p r⟩
  | .obj _ _, _, p, _ => by simp [plainD] at p
  | .dcK _, _, p, _ => by simp [plainD] at p
  | .dcN _, _, p, _ => by simp [plainD] at p
theorem But.reps (h : But a G G0) : ∀ (ds : List D) (vs : List V), plainDs ds = true → Reps K mg G ds vs → Reps K mg G0 ds vs
  | [], _, _, r => by rw [reps_nil] at *; exact r
  | d :: ds, _, p, r => by
    rw [reps_cons] at *
    unfold plainDs at p
    rw [Bool.and_eq_true] at p
    obtain ⟨v, vs, e, h1, h2⟩ := r
    exact ⟨v, vs, e, But.rep h d v p.1 h1, But.reps h ds vs p.2 h2⟩
end
def plainK (kvs : KKs) : Bool := kvs.all fun p => plainD p.2
theorem But.repK (h : But a G G0) : ∀ (kvs : KKs) (kv : List (Key × V)), plainK kvs = true → RepK K mg G kvs kv → RepK K mg G0 kvs kv
  | [], _, _, r => by rw [repK_nil] at *; exact r
  | (k, d) :: kvs, _, p, r => by
    rw [repK_cons] at *
    unfold plainK at p
    rw [List.all_cons, Bool.and_eq_true] at p
    obtain ⟨v, vs, e, h1, h2⟩ := r
    exact ⟨v, vs, e, But.rep h d v p.1 h1, But.repK h kvs vs p.2 h2⟩
def plSV : Option SV → Option SV
  | some (.val d) => if plainD d = true then some (.val d) else none
  | some (.own k) => some (.own k)
  | _ => none
def plRho (ρ : Rho) : Rho := ρ.map plSV
def plOD : Option OD → Option OD
  | some (.lst ds) => if plainDs ds = true then some (.lst ds) else none
  | some (.dcK kvs) => if plainK kvs = true then some (.dcK kvs) else none
  | _ => none
def plOm (ω : Om) : Om := ω.map plOD
theorem But.slots {α : List Addr} {ρ : Rho} {σ : St} (h : But a G G0) (S : Slots K mg G α ρ σ) : Slots K mg G0 α (plRho ρ) σ := by
  refine ⟨by unfold plRho; rw [List.length_map]; exact S.len, fun i x e => ?_⟩
  unfold plRho at e
  rw [List.getElem?_map] at e
  obtain ⟨y, h1, h2⟩ := Option.map_eq_some_iff.mp e
  unfold plSV at h2
  split at h2
  · rename_i d
    split at h2
    · rename_i p
      cases h2
      obtain ⟨v, h3, h4⟩ := S.val i _ h1
      exact ⟨v, h3, h.rep d v p h4⟩
    · cases h2
  · cases h2
    exact S.val i _ h1
  · cases h2
theorem But.own {α : List Addr} {ω : Om} {H H0 : Hp} (h : But a G G0) (hH : But a H H0) (s0 : Same G0 H0) (hn : ∃ u, H0 a = some u) (O : Own K mg G α ω H) : Own K mg G0 α (plOm ω) H0 := by
  refine ⟨s0, by unfold plOm; rw [List.length_map]; exact O.len, O.nd, fun b hb => ?_, fun k o b e hb => ?_⟩
  · by_cases z : b = a
    · rw [z]; exact hn
    · rw [hH.off b z]; exact O.ex b hb
  · unfold plOm at e
    rw [List.getElem?_map] at e
    obtain ⟨y, h1, h2⟩ := Option.map_eq_some_iff.mp e
    obtain ⟨kv, at_⟩ := h.at_
    have ne : ∀ {o : OD}, ω[k]? = some (some o) → b ≠ a := fun {o} q z => by
      have := (O.obj k o b q hb).1
      rw [z] at this
      rcases at_ with at_ | ⟨od, at_⟩ <;> (rw [at_] at this; cases this)
    unfold plOD at h2
    split at h2
    · rename_i ds
      split at h2
      · rename_i p
        cases h2
        obtain ⟨g, vs, h3, h4⟩ := O.obj k _ b h1 hb
        exact ⟨(h.off b (ne h1)).trans g, vs, (hH.off b (ne h1)).trans h3, h.reps ds vs p h4⟩
      · cases h2
    · rename_i kvs
      split at h2
      · rename_i p
        cases h2
        obtain ⟨g, kv, h3, h4⟩ := O.obj k _ b h1 hb
        exact ⟨(h.off b (ne h1)).trans g, kv, (hH.off b (ne h1)).trans h3, h.repK kvs kv p h4⟩
      · cases h2
    · cases h2
end
section
variable {K : PySem.W.Frag} {mg : MG} {G H : Hp} {α : List Addr} {ρ : Rho} {ω : Om} {σ : St}
end
section
variable {X : Cx} {W : WX} {pos : Pos} {e : Expr} {st : Stmt}
def keyD : Key → D
  | .inl i => .int i
  | .inr x => .str x
end
end Dl
namespace Dl
open PySem L2
section
variable {X : Cx} {W : WX} {pos pos' p1 p2 apos cpos : Pos} {e f i v : Expr}
end
end Dl
noncomputable section
namespace Pk
open PySem Dl
end Pk
namespace Dl
open PySem L2
section
variable {P : Program} {w : World} {K : PySem.W.Frag} {mg : Str → Option Value} {base : Heap}
end
section
variable {K : PySem.W.Frag} {mg : MG} {G H G' H' : Hp} {α : List Addr} {ω : Om}
theorem Own.add {a : Addr} {rs : List D} {us : List V} (O : Own K mg G α ω H) (na : a ∉ α) (hg : G a = none) (hh : H a = some (.lst us)) (r : Reps K mg G rs us) : Own K mg G (α ++ [a]) (ω ++ [some (.lst rs)]) H := by
  refine ⟨O.sub, by rw [List.length_append, List.length_append, O.len]; rfl, ?_, fun b hb => ?_, fun k o b h3 h4 => ?_⟩
  · rw [List.nodup_append]
    refine ⟨O.nd, List.pairwise_singleton _ _, fun b hb c hc z => ?_⟩
    rw [List.mem_singleton.mp hc] at z
    exact na (z ▸ hb)
  · rcases List.mem_append.mp hb with z | z
    · exact O.ex b z
    · rw [List.mem_singleton.mp z]; exact ⟨_, hh⟩
  · by_cases hk : k < ω.length
    · rw [List.getElem?_append_left hk] at h3
      rw [List.getElem?_append_left (by rw [O.len]; exact hk)] at h4
      exact O.obj k o b h3 h4
    · have hk' : k = ω.length := by
        have := (List.getElem?_eq_some_iff.mp h3).1
        simp at this; omega
      subst hk'
      rw [List.getElem?_append_right (Nat.le_refl _), Nat.sub_self] at h3
      rw [List.getElem?_append_right (by rw [O.len]; exact Nat.le_refl _), O.len, Nat.sub_self] at h4
      cases h3; cases h4
      exact ⟨hg, us, hh, r⟩
end
section
variable {X : Cx} {W : WX} {k : Nat} {f : Addr} {fd : FuncData} {ps : List Str} {x : Str} {e : Expr} {es : List Expr} {p pos : Pos} {g : FE (List SV)}
end
end Dl
namespace Dl
open PySem L2
section
variable {X : Cx} {W : WX} {e : Expr} {es : List Expr} {p pos : Pos} {g : FE (List SV)}
end
section
variable {K : PySem.W.Frag} {mg : MG} {H : Hp} {α : List Addr}
end
section
variable {K : PySem.W.Frag} {mg : MG} {G H : Hp} {α : List Addr} {ω ω' : Om}
end
section
variable {X : Cx} {W : WX} {a b e : Expr} {p1 pos : Pos} {g : FE D}
end
section
variable {X : Cx} {W : WX} {e : Expr} {pos : Pos}
theorem Reps.reverse {K : PySem.W.Frag} {mg : MG} {G : Hp} : ∀ {ds : List D} {vs : List V}, Reps K mg G ds vs → Reps K mg G ds.reverse vs.reverse
  | [], vs, h => by rw [reps_nil] at h; subst h; exact reps_nil.mpr rfl
  | d :: ds, vs, h => by
    rw [reps_cons] at h
    obtain ⟨v, r, rfl, h1, h2⟩ := h
    rw [List.reverse_cons, List.reverse_cons]
    exact (Reps.reverse h2).append (Reps.one h1)
end
section
variable {X : Cx} {W : WX} {pos : Pos}
end
end Dl
noncomputable section
namespace Pk
open PySem Dl
end Pk
namespace Sw
open PySem PySem.Spec PyProof.Rows L2
def Meets (m : Nat) : Prop := ∀ (h : Int) (j : Nat), j ≤ m → ∃ n, n ≤ m + 12 ∧ runI m (SetTable.bits h) n = j
theorem lcgI_shift (m i : Nat) : ∀ k, lcgI m ((i * 5 + 1) % (m + 1)) k = lcgI m i (k + 1)
  | 0 => rfl
  | k + 1 => by
    show (lcgI m ((i * 5 + 1) % (m + 1)) k * 5 + 1) % (m + 1) = (lcgI m i (k + 1) * 5 + 1) % (m + 1)
    rw [lcgI_shift m i k]
theorem lcgI_plus (m i a : Nat) : ∀ k, lcgI m (lcgI m i a) k = lcgI m i (a + k)
  | 0 => rfl
  | k + 1 => congrArg (fun x => (x * 5 + 1) % (m + 1)) (lcgI_plus m i a k)
def trail (m : Nat) : Nat → Nat → List Nat
  | 0, _ => []
  | n + 1, x => x :: trail m n ((x * 5 + 1) % (m + 1))
theorem trail_at {m j : Nat} : ∀ (n x : Nat), j ∈ trail m n x → ∃ k, k < n ∧ lcgI m x k = j
  | n + 1, x, h => by
    rcases List.mem_cons.mp h with e | h
    · exact ⟨0, Nat.succ_pos n, e.symm⟩
    · obtain ⟨k, hk, e⟩ := trail_at n _ h
      exact ⟨k + 1, Nat.succ_lt_succ hk, (lcgI_shift m x k).symm.trans e⟩
theorem trail_full : ((List.range 512).all fun j => (trail 511 512 0).contains j) = true := by decide +kernel
theorem round_511 : lcgI 511 0 512 = 0 := by decide +kernel
theorem cover_511 {i j : Nat} (hi : i ≤ 511) (hj : j ≤ 511) : ∃ k, k ≤ 511 ∧ lcgI 511 i k = j := by
  have on : ∀ x, x ≤ 511 → ∃ a, a < 512 ∧ lcgI 511 0 a = x := fun x hx =>
    trail_at 512 0 (List.contains_iff_mem.mp (List.all_eq_true.mp trail_full x (List.mem_range.mpr (Nat.lt_succ_of_le hx))))
  obtain ⟨a, ha, rfl⟩ := on i hi
  obtain ⟨b, hb, rfl⟩ := on j hj
  by_cases c : a ≤ b
  · exact ⟨b - a, by omega, by rw [lcgI_plus, Nat.add_sub_cancel' c]⟩
  · refine ⟨512 - a + b, by omega, ?_⟩
    rw [lcgI_plus, show a + (512 - a + b) = 512 + b by omega, ← lcgI_plus, round_511]
theorem runI_low (m b n : Nat) : runI m b n ≤ m := runI_le m b n
theorem meets_511 : Meets 511 := fun h j hj => by
  obtain ⟨k, hk, e⟩ := cover_511 (runI_low 511 (SetTable.bits h) 12) hj
  exact ⟨12 + k, by omega, (runI_tail (bits_lt h) k).trans e⟩
def Mk (m : Nat) : Prop := m = 7 ∨ m = 31 ∨ m = 127 ∨ m = 511
theorem Mk.meets {m : Nat} (h : Mk m) : Meets m := by
  rcases h with e | e | e | e
  · exact fun x _ q => run_meets (.inl e) x q
  · exact fun x _ q => run_meets (.inr (.inl e)) x q
  · exact fun x _ q => run_meets (.inr (.inr e)) x q
  · rw [e]; exact meets_511
theorem Mk.odd {m : Nat} (h : Mk m) : m % 2 = 1 := by rcases h with e | e | e | e <;> rw [e]
theorem Mk.top {m : Nat} (h : Mk m) : m ≤ 511 := by rcases h with e | e | e | e <;> rw [e] <;> decide
theorem way_low {m : Nat} (h : Int) (k : Nat) : way m h k ≤ m := by
  have b0 : SetTable.bits h % (m + 1) ≤ m := Nat.lt_succ_iff.mp (Nat.mod_lt _ (Nat.succ_pos m))
  obtain ⟨b1, b2, _⟩ := runEnd_bd b0
  have st : (runAt m (SetTable.bits h % (m + 1)) (SetTable.bits h)).j + (runAt m (SetTable.bits h % (m + 1)) (SetTable.bits h)).more ≤ m := by unfold runAt; dsimp only; omega
  have q := nth_in k _ st
  exact Nat.le_trans (Nat.le_add_right _ _) q
theorem Meets.near {m : Nat} (M : Meets m) (h : Int) {j : Nat} (hj : j ≤ m) : ∃ k, k < 10 * SetTable.turns m ∧ way m h k = j := by
  obtain ⟨n, a, e⟩ := M h j hj
  obtain ⟨k, b, e2⟩ := run_nth m (SetTable.bits h) n
  have hk : k < 10 * SetTable.turns m := by unfold SetTable.turns; omega
  exact ⟨k, hk, (congrArg SetTable.Probe.j e2).trans e⟩
structure Tab (t : SetTable) (hs : List Int) : Prop where
  asc : Ris t.place.toList
  clear : t.dummies = #[]
  many : t.place.toList.length = hs.length
  msk : Mk t.mask
  low : ∀ x ∈ t.place.toList, x ≤ t.mask
  path : ∀ (i : Nat) (h : Int) (j : Nat), hs[i]? = some h → t.place.toList[i]? = some j → ∃ k, way t.mask h k = j ∧ ∀ c, c < k → way t.mask h c ∈ t.place.toList
theorem Tab.hole {t : SetTable} {hs : List Int} (T : Tab t hs) (hl : hs.length ≤ t.mask) (h : Int) : ∃ K, K < 10 * SetTable.turns t.mask ∧ way t.mask h K ∉ t.place.toList ∧ ∀ c, c < K → way t.mask h c ∈ t.place.toList := by
  obtain ⟨j, hj, out⟩ := st_missing t.place.toList (t.mask + 1) (by have := T.many; omega)
  obtain ⟨k, hk, e⟩ := T.msk.meets.near h (Nat.le_of_lt_succ hj)
  obtain ⟨K, le, no, all⟩ := st_least (p := fun c => way t.mask h c ∉ t.place.toList) k (fun z => out (e ▸ z))
  exact ⟨K, Nat.lt_of_le_of_lt le hk, no, fun c hc => Classical.not_not.mp (all c hc)⟩
theorem Tab.ahead {t : SetTable} {hs : List Int} (T : Tab t hs) {h : Int} {K i j : Nat} (hK : way t.mask h K ∉ t.place.toList) (hi : hs[i]? = some h) (hj : t.place.toList[i]? = some j) : ∃ k, k < K ∧ way t.mask h k = j := by
  obtain ⟨k, e, all⟩ := T.path i h j hi hj
  refine ⟨k, Nat.lt_of_not_le fun le => hK ?_, e⟩
  rcases Nat.eq_or_lt_of_le le with q | q
  · rw [q, e]; exact List.mem_of_getElem? hj
  · exact all K q
theorem Tab.add {t : SetTable} {hs : List Int} (T : Tab t hs) {h : Int} {K j : Nat} (ej : way t.mask h K = j) (hK : j ∉ t.place.toList) (hb : ∀ c, c < K → way t.mask h c ∈ t.place.toList) :
    SetTable.below t.place j ≤ hs.length ∧ Tab (t.put j).1 (hs.take (SetTable.below t.place j) ++ h :: hs.drop (SetTable.below t.place j)) := by
  have cut := (below_cut T.asc j).1
  have sz : t.place.size = hs.length := (Array.length_toList).symm.trans T.many
  have p1 : SetTable.below t.place j ≤ t.place.toList.length := by rw [Array.length_toList]; exact cut
  have p2 : SetTable.below t.place j ≤ hs.length := sz ▸ cut
  have pl := put_place t j
  have grow : ∀ x, x ∈ t.place.toList → x ∈ (t.put j).1.place.toList := fun x hx => by rw [pl]; exact mem_ins.mpr (.inr hx)
  refine ⟨p2, ris_insert T.asc (fun z => hK (List.mem_of_getElem? ((Array.getElem?_toList).trans z))), put_dm T.clear j, ?_, T.msk, fun x hx => ?_, fun i g l hg hl => ?_⟩
  · rw [pl, len_ins _ p1, len_ins _ p2, T.many]
  · rw [pl] at hx
    exact (mem_ins.mp hx).elim (fun z => by rw [z, ← ej]; exact way_low h K) (T.low x)
  · have up : ∀ {k : Nat}, (∀ c, c < k → way t.mask g c ∈ t.place.toList) → ∀ c, c < k → way t.mask g c ∈ (t.put j).1.place.toList := fun a c hc => grow _ (a c hc)
    rw [tins_get hs p2] at hg
    rw [pl, tins_get _ p1] at hl
    by_cases c1 : i < SetTable.below t.place j
    · rw [if_pos c1] at hg hl
      obtain ⟨k, e, a⟩ := T.path _ _ _ hg hl
      exact ⟨k, e, up a⟩
    · by_cases c2 : i = SetTable.below t.place j
      · rw [if_neg c1, if_pos c2] at hg hl
        cases hg; cases hl
        exact ⟨K, ej, up hb⟩
      · rw [if_neg c1, if_neg c2] at hg hl
        obtain ⟨k, e, a⟩ := T.path _ _ _ hg hl
        exact ⟨k, e, up a⟩
abbrev seatOf (m : Nat) (owner : Array (Option Nat)) (h : Int) : Option Nat := SetTable.layClean.free m owner (SetTable.turns m) (SetTable.bits h % (m + 1)) (SetTable.bits h)
theorem seat_found {m : Nat} (M : Meets m) (owner : Array (Option Nat)) (h : Int) {j : Nat} (hj : j ≤ m) (hf : oAt owner j = none) :
    ∃ K, seatOf m owner h = some (way m h K) ∧ oAt owner (way m h K) = none ∧ ∀ c, c < K → oAt owner (way m h c) ≠ none := by
  obtain ⟨n, hn, e⟩ := M h j hj
  have at_n : way m h (off m (SetTable.bits h % (m + 1)) (SetTable.bits h) n) = j := by
    unfold way
    rw [nth_off, itL_run]; exact e
  obtain ⟨K, le, no, all⟩ := st_least (p := fun c => oAt owner (way m h c) = none) _ (show oAt owner (way m h (off m (SetTable.bits h % (m + 1)) (SetTable.bits h) n)) = none by rw [at_n]; exact hf)
  refine ⟨K, free_spec m owner _ n _ _ K (by unfold SetTable.turns; omega) le (fun c hc => ?_) (by rw [no]; rfl), no, all⟩
  exact Option.isNone_eq_false_iff.mpr (Option.isSome_iff_ne_none.mpr (all c hc))
theorem seats_more {m : Nat} (M : Meets m) {done : List Int} {owner : Array (Option Nat)} (W : L2.Own m done owner) (hl : done.length ≤ m) (h : Int) :
    ∃ j, seatOf m owner h = some j ∧ L2.Own m (done ++ [h]) (owner.setIfInBounds j (some done.length)) := by
  obtain ⟨ps, lps, ips⟩ := W.ps
  obtain ⟨j0, lt0, out0⟩ := st_missing ps (m + 1) (by rw [lps]; exact Nat.lt_succ_of_le hl)
  have free0 : oAt owner j0 = none := Classical.byContradiction fun z => out0 (ips j0 (Nat.le_of_lt_succ lt0) z)
  obtain ⟨K, found, no, all⟩ := seat_found M owner h (Nat.le_of_lt_succ lt0) free0
  have lowK : way m h K ≤ m := way_low h K
  have inK : way m h K < owner.size := by rw [W.sz]; omega
  have me := oAt_set_self (some done.length) inK
  have keep : ∀ i, oAt owner i ≠ none → oAt (owner.setIfInBounds (way m h K) (some done.length)) i ≠ none := fun i hi z => by
    by_cases c : i = way m h K
    · exact hi (c ▸ no)
    · exact hi ((oAt_set_ne _ c).symm.trans z)
  refine ⟨_, found, (Array.size_setIfInBounds).trans W.sz, fun j k hj e => ?_, fun k hk => ?_, way m h K :: ps, by simp [lps], fun j hj e => ?_⟩
  · by_cases c : j = way m h K
    · subst c
      cases me.symm.trans e
      exact ⟨h, K, by simp, rfl, fun c hc => keep _ (all c hc)⟩
    · obtain ⟨g, k2, a1, a2, a3⟩ := W.at_ j k hj ((oAt_set_ne _ c).symm.trans e)
      exact ⟨g, k2, by rw [List.getElem?_append_left (List.getElem?_eq_some_iff.mp a1).1]; exact a1, a2, fun c hc => keep _ (a3 c hc)⟩
  · rcases Nat.lt_or_ge k done.length with c | c
    · obtain ⟨j, hj, e⟩ := W.all k c
      have ne : j ≠ way m h K := fun z => by rw [z, no] at e; cases e
      exact ⟨j, hj, (oAt_set_ne _ ne).trans e⟩
    · have : k = done.length := by simp at hk; omega
      exact ⟨way m h K, lowK, this ▸ me⟩
  · by_cases c : j = way m h K
    · rw [c]; simp
    · exact List.mem_cons_of_mem _ (ips j hj fun z => e ((oAt_set_ne _ c).trans z))
theorem seats_all {m : Nat} (M : Meets m) : ∀ (rest done : List Int) (owner : Array (Option Nat)), L2.Own m done owner → done.length + rest.length ≤ m →
    ∃ o2 n2, rest.foldl (stepF m) (some (owner, done.length)) = some (o2, n2) ∧ L2.Own m (done ++ rest) o2
  | [], done, owner, W, _ => ⟨owner, _, rfl, (List.append_nil done).symm ▸ W⟩
  | h :: rest, done, owner, W, le => by
    have le' : done.length + (rest.length + 1) ≤ m := le
    obtain ⟨j, found, W2⟩ := seats_more M W (by omega) h
    obtain ⟨o2, n2, e, W3⟩ := seats_all M rest (done ++ [h]) _ W2 (by simp; omega)
    rw [List.length_append] at e
    refine ⟨o2, n2, ?_, by rw [List.append_assoc] at W3; exact W3⟩
    show rest.foldl (stepF m) (stepF m (some (owner, done.length)) h) = _
    rw [stepF_some found]; exact e
theorem laid_all {m : Nat} (M : Meets m) {hs : Array Int} (hn : hs.size ≤ m) : ∃ owner, SetTable.layClean m hs = some owner ∧ L2.Own m hs.toList owner := by
  obtain ⟨o2, n2, e, W⟩ := seats_all M hs.toList [] _ (Own.init m) (by simpa using hn)
  refine ⟨o2, ?_, W⟩
  rw [layClean_eq]
  exact congrArg (Option.map Prod.fst) e
theorem anew (t : SetTable) {hs : Array Int} {wanted M : Nat} (hw : SetTable.sizeAbove wanted - 1 = M) (hM : Mk M) (hn : hs.size ≤ M) :
    ∃ t2 order, t.relaid hs wanted = some (t2, order) ∧ order.toList.Perm (List.range hs.size) ∧ Tab t2 (order.toList.map fun i => hs.getD i 0) ∧ t2.mask = M ∧ t2.led = t.led ∧ t2.plain = t.plain := by
  obtain ⟨owner, e, W⟩ := laid_all hM.meets hn
  have asc := ris_live (fun j => owner.getD j none) (List.range (M + 1)) (show Ris _ from List.pairwise_lt_range)
  have inl : ∀ {j k : Nat}, (j, k) ∈ liveOf M owner ↔ j ≤ M ∧ oAt owner j = some k := fun {j k} => mem_live W.sz
  have each : ∀ k, k < hs.size → k ∈ (liveOf M owner).map (·.2) := fun k hk => by
    obtain ⟨j, hj, e⟩ := W.all k (by rw [Array.length_toList]; exact hk)
    exact List.mem_map.mpr ⟨_, inl.mpr ⟨hj, e⟩, rfl⟩
  have len : (liveOf M owner).length = hs.size := by
    obtain ⟨ps, lps, ips⟩ := W.ps
    have nd : ((liveOf M owner).map (·.1)).Nodup := asc.1.imp fun h => Nat.ne_of_lt h
    have up := nat_nodup_len _ ps nd fun x hx => by
      obtain ⟨⟨y, k⟩, hq, rfl⟩ := List.mem_map.mp hx
      obtain ⟨a, b⟩ := inl.mp hq
      exact ips y a (by rw [b]; exact Option.some_ne_none k)
    have dn := nat_nodup_len (List.range hs.size) ((liveOf M owner).map (·.2)) List.nodup_range fun k hk => each k (List.mem_range.mp hk)
    rw [List.length_map, lps, Array.length_toList] at up
    rw [List.length_map, List.length_range] at dn
    exact Nat.le_antisymm up dn
  refine ⟨tabOf t M owner, ((liveOf M owner).map (·.2)).toArray, by rw [relaid_eq, hw, e]; rfl, perm_range _ _ (by simp [len]) each, ⟨asc.1, rfl, by simp [tabOf], hM, fun x hx => ?_, fun i h j h1 h2 => ?_⟩, rfl, rfl, rfl⟩
  · exact Nat.le_of_lt_succ (List.mem_range.mp (asc.2 x hx))
  · have h2 : ((liveOf M owner).map (·.1))[i]? = some j := h2
    have h1 : (((liveOf M owner).map (·.2)).map fun i => hs.getD i 0)[i]? = some h := h1
    rw [List.getElem?_map] at h2
    rw [List.getElem?_map, List.getElem?_map] at h1
    obtain ⟨⟨y, k⟩, hq, rfl⟩ := Option.map_eq_some_iff.mp h2
    rw [hq] at h1
    obtain ⟨a, b⟩ := inl.mp (List.mem_of_getElem? hq)
    obtain ⟨g, K, c1, c2, c3⟩ := W.at_ y k a b
    have eg : g = h := by
      cases h1
      show g = hs.getD k 0
      rw [Array.getD_eq_getD_getElem?, ← Array.getElem?_toList, c1]; rfl
    subst eg
    refine ⟨K, c2, fun c hc => ?_⟩
    cases z : oAt owner (way M g c) with
    | none => exact (c3 c hc z).elim
    | some k2 => exact List.mem_map.mpr ⟨(_, k2), inl.mpr ⟨way_low g c, z⟩, rfl⟩
end Sw
namespace Sw
open PySem PySem.Spec PyProof.Rows L2
abbrev begin0 (t : SetTable) (g : Int) : SetTable.Probe := runAt t.mask (SetTable.bits g % (t.mask + 1)) (SetTable.bits g)
theorem nth_clean (m : Nat) : ∀ (n : Nat) (p : SetTable.Probe), (nth m p n).dummy = p.dummy
  | 0, _ => rfl
  | n + 1, p => (nth_clean m n (adv m p)).trans (by unfold adv; split <;> rfl)
section
variable {P : Program} {w : World} {A : Around} {E : Value → Shared → Prop} {s : Shared} {a : Addr} {L : List (Addr × List Int)} {es : Array (Int × Value)} {ep : Nat} {t : SetTable}
structure St (P : Program) (w : World) (h : Heap) (a : Addr) (L : List (Addr × List Int)) (es : Array (Int × Value)) (ep : Nat) (t : SetTable) : Prop where
  obj : ∃ o, h.get? a = some o ∧ o.ExactSet ∧ o.data = .set es ep t
  rws : es.toList = rowsOf P w L
  tab : Tab t (L.map fun q => thash P w q.2)
  once : (L.map (·.2)).Nodup
  tups : ∀ q ∈ L, IsT P w h q.2 q.1
  pln : t.plain = true
  ordr : w.params.followText "set-order" = true ∨ t.led = true
  rm : L.length * 5 < t.mask * 3
theorem rows_size (h : es.toList = rowsOf P w L) : es.size = L.length := by
  rw [← Array.length_toList, h, rowsOf, List.length_map]
theorem St.places (R : St P w s.heap a L es ep t) : t.place.toList.length = L.length := by rw [R.tab.many, List.length_map]
theorem fits_of {n : Nat} (h1 : t.place.toList.length = n) (h2 : t.dummies = #[]) (h3 : n ≤ t.mask) : t.fits n = true := by
  have h1 : t.place.size = n := (Array.length_toList).symm.trans h1
  unfold SetTable.fits SetTable.fill
  rw [h1, h2]
  simpa using h3
theorem St.fits (R : St P w s.heap a L es ep t) : t.fits es.size = true := by
  have r := R.rm
  rw [rows_size R.rws]
  exact fits_of R.places R.tab.clear (by omega)
theorem St.at_ (R : St P w s.heap a L es ep t) {i : Nat} {q : Addr × List Int} (h : L[i]? = some q) : es[i]? = some (thash P w q.2, Value.ref q.1) := by
  have e := congrArg (fun l => l[i]?) R.rws
  simp only [rowsOf, List.getElem?_map, h, Array.getElem?_toList] at e
  exact e
theorem St.noGap (R : St P w s.heap a L es ep t) : ¬ t.gaveWay = true := by
  unfold SetTable.gaveWay
  rw [R.tab.msk.odd]; decide
theorem look (R : St P w s.heap a L es ep t) {x : Addr} {k : List Int} (hx : IsT P w s.heap k x) (hu : A.units < cLine) {g : Int} (hg : thash P w k = g) {K : Nat} (fewK : K < 10 * SetTable.turns t.mask)
    (noK : way t.mask g K ∉ t.place.toList) (allK : ∀ c, c < K → way t.mask g c ∈ t.place.toList) {Q : SetFound → Shared → Prop} (isIn : k ∈ L.map (·.2) → Q (.there none) s) (isOut : k ∉ L.map (·.2) → Q (.free (way t.mask g K) false) s) :
    ∀ (f c : Nat) (from_ : Option SetTable.Probe), from_.getD (t.probeStart g) = nth t.mask (begin0 t g) c → c ≤ K → K - c < f →
      (∀ (i : Nat) q, L[i]? = some q → q.2 = k → ∃ d, c ≤ d ∧ d < K ∧ t.place.toList[i]? = some (way t.mask g d)) → wpAny (model P w) A (setSearchFrom a (.ref x) g true f from_) Q E s
  | 0, _, _, _, _, z, _ => (Nat.not_lt_zero _ z).elim
  | f + 1, c, from_, at_c, cK, fuel, ahead => by
    obtain ⟨o, ho, hex, hd⟩ := R.obj
    have step : ∀ q, nth t.mask (nth t.mask (begin0 t g) c) q = nth t.mask (begin0 t g) (c + q) := fun q => (nth_add _ _ _ _).symm
    have stepJ : ∀ q, (nth t.mask (nth t.mask (begin0 t g) c) q).j = way t.mask g (c + q) := fun q => congrArg SetTable.Probe.j (step q)
    have endJ : (nth t.mask (nth t.mask (begin0 t g) c) (K - c)).j = way t.mask g K := (stepJ _).trans (by rw [Nat.add_sub_cancel' cK])
    have told := go_spec t R.tab.asc R.tab.clear (fun i => (es[i]?.map (·.1)).getD 0) g (10 * SetTable.turns t.mask) (K - c) (nth t.mask (begin0 t g) c) (nth_clean _ _ _) (by omega) (fun q hq => by rw [stepJ]; exact allK _ (by omega)) (by rw [endJ]; exact noK)
    have hashOf : ∀ (i : Nat) q, L[i]? = some q → (es[i]?.map (·.1)).getD 0 = thash P w q.2 := fun i q hq => by rw [R.at_ hq]; rfl
    -- what has this hash is not passed by
    have notBefore : ∀ (n : Nat), (∀ (q i : Nat), q < n → t.place.toList[i]? = some (nth t.mask (nth t.mask (begin0 t g) c) q).j → (es[i]?.map (·.1)).getD 0 ≠ g) →
        ∀ (i : Nat) q d, L[i]? = some q → q.2 = k → c ≤ d → t.place.toList[i]? = some (way t.mask g d) → c + n ≤ d := fun n no i q d h1 h2 h3 h4 => by
      refine Nat.le_of_not_lt fun lt => no (d - c) i (by omega) ?_ ((hashOf i q h1).trans ((congrArg _ h2).trans hg))
      rw [stepJ, Nat.add_sub_cancel' h3]; exact h4
    rw [setSearchFrom_succ]
    refine wpAny_bind (wpAny_setState_of ho hd R.fits ?_)
    dsimp only
    refine wp_if_neg R.noGap ?_
    try refine wpAny_bind (wpAny_pure ?_)
    rcases told with ⟨q, i, lq, li, eh, before, hit⟩ | ⟨before, hit⟩
    · rw [stepJ] at li
      have hit2 : t.probe (fun i => (es[i]?.map (·.1)).getD 0) g (from_.getD (t.probeStart g)) = some (.candidate (way t.mask g (c + q)) i (nth t.mask (begin0 t g) (c + (q + 1)))) := by
        rw [at_c, ← stepJ, ← step]; exact hit
      rw [hit2]
      dsimp only
      have il : i < L.length := by rw [← R.places]; exact (List.getElem?_eq_some_iff.mp li).1
      obtain ⟨r, hr⟩ : ∃ r, L[i]? = some r := ⟨_, List.getElem?_eq_getElem il⟩
      have rm := List.mem_of_getElem? hr
      have rest : wpAny (model P w) A (searchRest a (.ref x) g true f es t (way t.mask g (c + q)) i (nth t.mask (begin0 t g) (c + (q + 1)))) Q E s := by
        unfold searchRest
        rw [R.at_ hr]
        dsimp only
        refine wpAny_bind (wpAny_holding (wpAny_eqBool_tuple hu (R.tups r rm) hx ?_))
        refine wpAny_bind (wpAny_setState_of ho hd R.fits ?_)
        dsimp only
        by_cases same : r.2 = k
        · refine wp_if_pos (by simp [same]) (wpAny_pure (isIn ?_))
          rw [← same]; exact List.mem_map_of_mem rm
        · refine wp_if_neg (by simp [same]) ?_
          try refine wpAny_bind (wpAny_pure ?_)
          rw [sameMem]
          dsimp only
          have live : t.slot (way t.mask g (c + q)) = .live i := slot_live R.tab.asc li
          simp only [if_true, live, R.at_ hr]
          refine wpAny_bind (wpAny_isSame_ref_self (wpAny_bind (wpAny_pure ?_)))
          simp only [if_true]
          refine wp_if_neg (by simp [same]) ?_
          refine look R hx hu hg fewK noK allK isIn isOut f (c + (q + 1)) _ rfl (by omega) (by omega) fun i2 q2 h1 h2 => ?_
          obtain ⟨d, d1, d2, d3⟩ := ahead i2 q2 h1 h2
          have le := notBefore q before i2 q2 d h1 h2 d1 d3
          refine ⟨d, Nat.lt_of_le_of_ne le fun z => same ?_, d2, d3⟩
          have two := (slot_live R.tab.asc (z ▸ d3)).symm.trans live
          cases two
          cases hr.symm.trans h1
          exact h2
      by_cases l : t.led = true
      · refine wp_if_neg (by simp [l]) ?_
        try refine wpAny_bind (wpAny_pure ?_)
        exact rest
      · refine wp_if_pos (by simp [l]) (wpAny_bind (seen_tup hx (fun y hy => ?_) ?_))
        · obtain ⟨u, hu1, rfl⟩ := List.mem_map.mp hy
          have hu2 : u ∈ es.toList := by have := Array.mem_toList_iff.mp hu1; simp at this; simpa using this.1
          rw [R.rws] at hu2
          obtain ⟨z, hz, rfl⟩ := List.mem_map.mp hu2
          exact ⟨z.2, z.1, rfl, R.tups z hz⟩
        · refine wp_if_neg (by decide) ?_
          try refine wpAny_bind (wpAny_pure ?_)
          exact rest
    · have hit2 : t.probe (fun i => (es[i]?.map (·.1)).getD 0) g (from_.getD (t.probeStart g)) = some (.empty (way t.mask g K) none) := by
        rw [at_c, ← endJ]; exact hit
      rw [hit2]
      dsimp only
      refine wpAny_pure (isOut fun m => ?_)
      obtain ⟨r, rm, rk⟩ := List.mem_map.mp m
      obtain ⟨i, hi⟩ := List.getElem?_of_mem rm
      obtain ⟨d, d1, d2, d3⟩ := ahead i r hi rk
      have := notBefore (K - c) before i r d hi rk d1 d3
      omega
theorem lookup (R : St P w s.heap a L es ep t) {x : Addr} {k : List Int} (hx : IsT P w s.heap k x) (hu : A.units < cLine) {g : Int} (hg : thash P w k = g) {Q : SetFound → Shared → Prop} (isIn : k ∈ L.map (·.2) → Q (.there none) s)
    (isOut : ∀ j K, k ∉ L.map (·.2) → way t.mask g K = j → j ∉ t.place.toList → (∀ c, c < K → way t.mask g c ∈ t.place.toList) → Q (.free j false) s) : wpAny (model P w) A (setSearch a (.ref x) g true) Q E s := by
  have r := R.rm
  obtain ⟨K, fewK, noK, allK⟩ := R.tab.hole (by rw [List.length_map]; omega) g
  have top := R.tab.msk.top
  have K5 : K < 100000 := by unfold SetTable.turns at fewK; omega
  unfold setSearch
  refine look R hx hu hg fewK noK allK isIn (fun no => isOut _ K no rfl noK allK) 100000 0 none rfl (Nat.zero_le K) (by omega) fun i q hq e => ?_
  have hl : i < t.place.toList.length := by rw [R.places]; exact (List.getElem?_eq_some_iff.mp hq).1
  obtain ⟨d, d1, d2⟩ := R.tab.ahead noK (show (L.map fun q => thash P w q.2)[i]? = some g by rw [List.getElem?_map, hq, ← hg, ← e]; rfl) (List.getElem?_eq_getElem hl)
  exact ⟨d, Nat.zero_le d, d1, by rw [d2]; exact List.getElem?_eq_getElem hl⟩
theorem relaid_at {o : Obj} (ho : s.heap.get? a = some o) (hex : o.ExactSet) (hd : o.data = .set es ep t) (hr : es.toList = rowsOf P w L) (T : Tab t (L.map fun q => thash P w q.2)) (le : L.length ≤ t.mask)
    (once : (L.map (·.2)).Nodup) (tups : ∀ q ∈ L, IsT P w s.heap q.2 q.1) (pln : t.plain = true) (ordr : w.params.followText "set-order" = true ∨ t.led = true) {wanted M : Nat} (hw : SetTable.sizeAbove wanted - 1 = M) (hM : Mk M) (rm : L.length * 5 < M * 3)
    {Q : Unit → Shared → Prop} (hQ : ∀ h2 L2 es2 ep2 t2, Heap.SameBut a s.heap h2 → St P w h2 a L2 es2 ep2 t2 → L2.Perm L → Q () { s with heap := h2 }) : wpAny (model P w) A (setRelay a wanted) Q E s := by
  have sz := rows_size hr
  have top := hM.top
  have fit : t.fits es.size = true := by rw [sz]; exact fits_of (by rw [T.many, List.length_map]) T.clear le
  obtain ⟨t2, order, e, pm, T2, e1, e2, e3⟩ := anew t (hs := es.map (·.1)) hw hM (by rw [Array.size_map, sz]; omega)
  rw [Array.size_map, sz] at pm
  obtain ⟨L2, r1, r2, r3⟩ := order_rows L es order hr pm
  have sz2 : (order.filterMap (es[·]?)).size = es.size := (rows_size r1).trans (r2.length_eq.trans sz.symm)
  have T3 : Tab t2 (L2.map fun q => thash P w q.2) := by rw [r3]; exact T2
  rw [setRelay_eq]
  refine wpAny_bind (wpAny_setState_of ho hd fit ?_)
  dsimp only
  refine wp_if_neg (by rw [sizeLine_eq]; omega) ?_
  try refine wpAny_bind (wpAny_pure ?_)
  rw [e]
  dsimp only
  refine wpAny_bind ?_
  refine wp_if_neg (by simp [sz2]) ?_
  try refine wpAny_bind (wpAny_pure ?_)
  refine wpAny_pure ?_
  dsimp only
  refine wpAny_storeSet_of ho hd ?_ (by rw [sz2, sz, sizeLine_eq]; omega)
  have but : Heap.SameBut a s.heap (s.heap.update a (Obj.putSet (order.filterMap (es[·]?)) t2)) := .update ..
  exact hQ _ L2 _ (ep + 1) t2 but ⟨⟨_, store_at ho hd, ⟨hex.1, hex.2.1, hex.2.2⟩, rfl⟩, r1, T3, (r2.map (·.2)).nodup_iff.mpr once, fun q hq => isT_same (tups q (r2.mem_iff.mp hq)) ho hd but, e3.trans pln, ordr.imp id fun z => e2.trans z, by rw [r2.length_eq, e1]; exact rm⟩ r2
theorem size_308 : SetTable.sizeAbove (SetTable.grown 77) = 512 := by decide +kernel
theorem added (R : St P w s.heap a L es ep t) {x : Addr} {k : List Int} (hx : IsT P w s.heap k x) (hu : A.units < cLine) {g : Int} (hg : thash P w k = g) (few : L.length < 300) {Q : Bool → Shared → Prop}
    (hQ : ∀ b h2 L2 es2 ep2 t2, Heap.SameBut a s.heap h2 → St P w h2 a L2 es2 ep2 t2 → (k ∈ L.map (·.2) → L2 = L) → (k ∉ L.map (·.2) → L2.Perm ((x, k) :: L)) → Q b { s with heap := h2 }) : wpAny (model P w) A (setAddHashed a (.ref x) g) Q E s := by
  obtain ⟨o, ho, hex, hd⟩ := R.obj
  have sz := rows_size R.rws
  have rm := R.rm
  unfold setAddHashed
  refine wpAny_holding ?_
  rw [show (100000 : Nat) = 99999 + 1 from rfl, setAddHashedIn_succ]
  refine wpAny_bind (wpAny_setState_of ho hd R.fits ?_)
  dsimp only
  refine wp_if_neg (by simp [byScan, Value.scannable]) ?_
  try refine wpAny_bind (wpAny_pure ?_)
  refine wpAny_bind (lookup R hx hu hg (fun m => ?_) fun j K no ej out all => ?_)
  · exact wpAny_pure (hQ false s.heap L es ep t (.refl a s.heap) R (fun _ => rfl) fun z => (z m).elim)
  dsimp only
  refine wpAny_bind (wpAny_setState_of ho hd R.fits ?_)
  dsimp only
  obtain ⟨lp, T⟩ := R.tab.add ej out all
  have pln1 : (t.put j).1.plain = true := R.pln
  have msk1 : (t.put j).1.mask = t.mask := rfl
  have led1 : (t.put j).1.led = t.led := rfl
  have pos1 : (t.put j).2 = SetTable.below t.place j := rfl
  generalize (t.put j) = put1 at T pln1 msk1 led1 pos1 ⊢
  obtain ⟨t1, p1⟩ := put1
  dsimp only at T pln1 msk1 led1 pos1 ⊢
  subst pos1
  first
    | (refine wpAny_bind ?_; refine wp_if_pos pln1 ?_; refine hashBy_tup hx ?_)
    | refine wp_if_pos pln1 (wpAny_bind (hashBy_tup hx ?_))
  simp only [if_true]
  generalize SetTable.below t.place j = p at lp T ⊢
  have pm := put_perm L p (x, k)
  have len1 : (L.take p ++ (x, k) :: L.drop p).length = L.length + 1 := pm.length_eq
  have rws1 : (SetTable.insertAt es p (g, Value.ref x)).toList = rowsOf P w (L.take p ++ (x, k) :: L.drop p) := by
    rw [SetTable.toList_insertAt, rows_put, R.rws, hg]
  have T1 : Tab t1 ((L.take p ++ (x, k) :: L.drop p).map fun q => thash P w q.2) := by
    rw [List.map_append, List.map_cons, List.map_take, List.map_drop]
    dsimp only
    rw [hg]; exact T
  have once1 : ((L.take p ++ (x, k) :: L.drop p).map (·.2)).Nodup := (pm.map (·.2)).nodup_iff.mpr (List.nodup_cons.mpr ⟨no, R.once⟩)
  generalize L.take p ++ (x, k) :: L.drop p = L1 at pm len1 rws1 T1 once1
  generalize SetTable.insertAt es p (g, Value.ref x) = es1 at rws1 ⊢
  have sz1 := (rows_size rws1).trans len1
  refine wpAny_bind (wpAny_storeSet_of ho hd ?_ (by rw [sz1, sizeLine_eq]; omega))
  have but : Heap.SameBut a s.heap (s.heap.update a (Obj.putSet es1 t1)) := .update ..
  have ho1 := store_at (es' := es1) (t' := t1) ho hd
  generalize s.heap.update a (Obj.putSet es1 t1) = h1 at but ho1 ⊢
  have tups1 : ∀ q ∈ L1, IsT P w h1 q.2 q.1 := fun q hq => (List.mem_cons.mp (pm.mem_iff.mp hq)).elim (fun z => by rw [z]; exact isT_same hx ho hd but) fun z => isT_same (R.tups q z) ho hd but
  have ordr1 : w.params.followText "set-order" = true ∨ t1.led = true := by rw [led1]; exact R.ordr
  have fill1 : t1.fill = L.length + 1 := by
    have := T1.many
    rw [List.length_map, len1, Array.length_toList] at this
    unfold SetTable.fill
    rw [this, T1.clear]; rfl
  by_cases full : t1.tooFull = true
  · have over : t.mask * 3 ≤ (L.length + 1) * 5 := by
      have q := full
      unfold SetTable.tooFull at q
      rw [decide_eq_true_eq, fill1, msk1] at q
      exact q
    first
      | (refine wpAny_bind ?_; refine wp_if_pos (by simp [full]) ?_)
      | (refine wp_if_pos (by simp [full]) ?_; refine wpAny_bind ?_)
    rw [sz]
    have go : ∀ M, SetTable.sizeAbove (SetTable.grown (L.length + 1)) - 1 = M → Mk M → (L.length + 1) * 5 < M * 3 → wpAny (model P w) A (setRelay a (SetTable.grown (L.length + 1))) (fun _ s2 => wpAny (model P w) A (pure true) Q E s2) E { s with heap := h1 } := fun M c1 c2 c3 => by
      refine relaid_at (s := { s with heap := h1 }) ho1 ⟨hex.1, hex.2.1, hex.2.2⟩ rfl rws1 T1 (by rw [len1, msk1]; rcases R.tab.msk with z | z | z | z <;> omega) once1 tups1 pln1 ordr1 c1 c2 (by rw [len1]; exact c3) fun h2 L2 es2 ep2 t2 but2 R2 pm2 => ?_
      exact wpAny_pure (hQ true h2 L2 es2 ep2 t2 (but.trans but2) R2 (fun z => (no z).elim) fun _ => pm2.trans pm)
    have which : L.length = 4 ∨ L.length = 18 ∨ L.length = 76 := by rcases R.tab.msk with z | z | z | z <;> rw [z] at over rm <;> omega
    rcases which with z | z | z
    · exact go 31 (by rw [z, size_20]) (.inr (.inl rfl)) (by rw [z]; decide)
    · exact go 127 (by rw [z, size_76]) (.inr (.inr (.inl rfl))) (by rw [z]; decide)
    · exact go 511 (by rw [z, size_308]) (.inr (.inr (.inr rfl))) (by rw [z]; decide)
  · have under : (L.length + 1) * 5 < t.mask * 3 := by
      have q := full
      unfold SetTable.tooFull at q
      rw [decide_eq_true_eq, fill1, msk1] at q
      omega
    first
      | refine wp_if_neg (by simp [full]) ?_
      | (refine wpAny_bind ?_; refine wp_if_neg (by simp [full]) ?_; refine wpAny_pure ?_)
    exact wpAny_pure (hQ true h1 L1 es1 (ep + 1) t1 but ⟨⟨_, ho1, ⟨hex.1, hex.2.1, hex.2.2⟩, rfl⟩, rws1, T1, once1, tups1, pln1, ordr1, by rw [len1, msk1]; exact under⟩ (fun z => (no z).elim) fun _ => pm)
end
end Sw
namespace Sw
open PySem PySem.Spec PyProof.Rows L2
section
variable {P : Program} {w : World} {A : Around} {E : Value → Shared → Prop} {s : Shared}
abbrev newSet (w : World) : Obj := { cls := .type "set", dict := none, data := .set #[] 0 (.fresh 0 0 (!w.params.followText "set-order")) }
theorem St.stay {h h2 : Heap} {a : Addr} {L : List (Addr × List Int)} {es : Array (Int × Value)} {ep : Nat} {t : SetTable} (R : St P w h a L es ep t) (ha : ∀ o, h.get? a = some o → h2.get? a = some o) (ht : ∀ q ∈ L, IsT P w h2 q.2 q.1) : St P w h2 a L es ep t :=
  ⟨let ⟨o, z, r⟩ := R.obj; ⟨o, ha o z, r⟩, R.rws, R.tab, R.once, ht, R.pln, R.ordr, R.rm⟩
theorem st_new {h : Heap} {a : Addr} (ho : h.get? a = some (newSet w)) : St P w h a [] #[] 0 (.fresh 0 0 (!w.params.followText "set-order")) := by
  refine ⟨⟨_, ho, ⟨rfl, rfl, rfl⟩, rfl⟩, rfl, ⟨.nil, rfl, rfl, .inl rfl, fun _ z => (nomatch z), fun i g j z => by simp at z⟩, .nil, fun _ z => (nomatch z), rfl, ?_, by show 0 < 21; decide⟩
  show _ ∨ (!w.params.followText "set-order") = true
  cases w.params.followText "set-order" <;> simp
theorem filled {I : Addr} {fp wr : List Addr} {G : Array GenState → Array GenState → Prop} {n : Nat} {Pv : Nat → Value → Prop} {Sx : Nat → Shared → Prop} {R : Result → Shared → Prop} (W : WalksS P w A.in1 I fp wr G n Pv Sx) {S : Addr} (outS : S ∉ fp)
    {ks : List (Addr × List Int)} (hn : n = ks.length) (few : ∀ l : List (List Int), l.Nodup → (∀ k ∈ l, k ∈ ks.map (·.2)) → l.length < 300) (val : ∀ i v, Pv i v → ∃ q, ks[i]? = some q ∧ v = .ref q.1) {h0 : Heap} (old : ∀ q ∈ ks, IsT P w h0 q.2 q.1)
    (newS : h0.get? S = none) (newW : ∀ b ∈ wr, h0.get? b = none) (hu : A.in1.units < cLine) :
    ∀ (m i : Nat) (s : Shared), n - i = m → i ≤ n → Sx i s → (∀ b o, h0.get? b = some o → s.heap.get? b = some o) → (∃ L es ep t, St P w s.heap S L es ep t ∧ Got ks i L) →
      (∀ s2 L es ep t, Moved (S :: wr) G s s2 → St P w s2.heap S L es ep t → Got ks n L → (∀ b o, h0.get? b = some o → s2.heap.get? b = some o) → R (.ok (.ret .none)) s2) → codeAny (model P w) A (.builtin "set.update.loop" ⟨[.ref S, .ref I], []⟩) R s := by
  have outW : S ∉ wr := fun z => outS (W.sub _ z)
  have more : ∀ b ∈ wr, b ∈ S :: wr := fun b hb => .tail _ hb
  have over : ∀ {s s2 : Shared}, Moved wr G s s2 → (∀ b o, h0.get? b = some o → s.heap.get? b = some o) → ∀ b o, h0.get? b = some o → s2.heap.get? b = some o :=
    fun mv k b o e => mv.heap b o (fun z => by rw [newW b z] at e; cases e) (k b o e)
  have hold : ∀ {i : Nat} {L : List (Addr × List Int)} {h : Heap}, Got ks i L → (∀ b o, h0.get? b = some o → h.get? b = some o) → ∀ q ∈ L, IsT P w h q.2 q.1 := fun g k q hq => isT_keep (old q (List.mem_of_mem_take (g.sub q hq))) k
  intro m
  induction m with
  | zero =>
    intro i s z hi hx k ⟨L, es, ep, t, T, g⟩ hR
    obtain rfl : i = n := by omega
    refine codeAny_builtin F.entry_set_update_loop ?_
    rw [Around.under_plainId F.plain_set_update_loop _]
    refine wpAny_bind (m := pyNext (.ref I)) (W.done s _ _ hx fun s2 mv => ?_)
    have k2 := over mv k
    show wpAny _ A.in1 (ret Value.none) _ _ s2
    exact wpAny_pure (hR s2 L es ep t (mv.mono more) (T.stay (fun o z => mv.heap S o outW z) (hold g k2)) g k2)
  | succ m ih =>
    intro i s z hi hx k ⟨L, es, ep, t, T, g⟩ hR
    have lt : i < n := by omega
    refine codeAny_builtin F.entry_set_update_loop ?_
    rw [Around.under_plainId F.plain_set_update_loop _]
    refine wpAny_bind (m := pyNext (.ref I)) (W.item i s _ _ lt hx fun v s2 pv hx2 mv => ?_)
    obtain ⟨q, hq, rfl⟩ := val i v pv
    have k2 := over mv k
    have T2 : St P w s2.heap S L es ep t := T.stay (fun o z => mv.heap S o outW z) (hold g k2)
    have tq : IsT P w s2.heap q.2 q.1 := isT_keep (old q (List.mem_of_getElem? hq)) k2
    refine wpAny_bind (m := holding [Value.ref q.1] (setAdd S (.ref q.1))) (wpAny_holding ?_)
    unfold setAdd
    refine wpAny_holding ?_
    refine wpAny_bind (wpAny_pyHash_tuple hu tq ?_)
    have lenL : L.length < 300 := by
      have := few (L.map (·.2)) T.once fun k hk => by
        obtain ⟨r, hr, rfl⟩ := List.mem_map.mp hk
        exact List.mem_map_of_mem (List.mem_of_mem_take (g.sub r hr))
      rwa [List.length_map] at this
    refine added (s := { s2 with toks := s2.toks + (q.2.length + 1) }) T2 tq hu rfl lenL fun b h3 L3 es3 ep3 t3 but T3 c1 c2 => ?_
    have g3 : Got ks (i + 1) L3 := (Classical.em (q.2 ∈ L.map (·.2))).elim (fun c => c1 c ▸ g.same hq c) fun c => g.more hq (c2 c)
    have k3 : ∀ b o, h0.get? b = some o → h3.get? b = some o := fun b o e => (but.2 b fun z => by rw [z, newS] at e; cases e).trans (k2 b o e)
    refine wpAny_pure ⟨plainId_quiet F.plain_set_update_loop _, ih (i + 1) _ (by omega) lt (W.frame _ s2 _ _ hx2 (Nat.le_add_right _ _) fun b hb o e => ?_) k3 ⟨L3, es3, ep3, t3, T3, g3⟩ fun s4 L4 es4 ep4 t4 mv4 T4 g4 k4 => ?_⟩
    · exact (but.2 b fun z => outS (z ▸ hb)).trans e
    · refine hR s4 L4 es4 ep4 t4 (Moved.trans W.gtrans ((mv.mono more).then_heap (Nat.le_add_right _ _) fun b o nb e => ?_) mv4) T4 g4 k4
      exact (but.2 b fun z => nb (z ▸ List.mem_cons_self)).trans e
set_option maxRecDepth 100000 in
set_option maxHeartbeats 3200000 in
theorem call_set {l : Addr} {items : Array Value} (ks : List (Addr × List Int)) {Q : Value → Shared → Prop} (hh : A.handled = none) (hl : s.heap.IsList l items) (hit : items.toList = ks.map fun q => Value.ref q.1) (old : ∀ q ∈ ks, IsT P w s.heap q.2 q.1)
    (few : ∀ l : List (List Int), l.Nodup → (∀ k ∈ l, k ∈ ks.map (·.2)) → l.length < 300) (hu : A.units + 3 < cLine)
    (h : ∀ (h2 : Heap) (tk : Nat) L es ep t, St P w h2 s.heap.objs.size L es ep t → Got ks ks.length L → (∀ b o, s.heap.get? b = some o → h2.get? b = some o) → Q (.ref s.heap.objs.size) { s with heap := h2, toks := tk }) :
    wpAny (model P w) A (call (.type "set") [.ref l]) Q E s := by
  have size : items.size = ks.length := by
    have q := congrArg List.length hit
    rwa [Array.length_toList, List.length_map] at q
  obtain ⟨c, tl, hmro⟩ := F.called_set.mro
  have hmade := F.called_set.made
  have hsub := F.called_set.sub
  refine wpAny_call (codeAny_of_tree ?_)
  show wpAny _ _ (callAny (.type "set") _) _ _ _
  refine wpAny_pure ⟨Code.quiet_builtin _ (by decide +kernel), codeAny_builtin F.entry_type_call ?_⟩
  rw [Around.under_plain (weight_type_call_type "set" [.ref l] []) rfl]
  have h1 := F.called_set.notType
  have h2 := F.called_set.canCreate
  have hct := F.typeCall_set_1 (.ref l)
  repeat (any_goals (first | assumption | wp_step))
  refine codeAny_mono (code_set_led1 (.ref l) (E := E) (Q₁ := fun obj s₁ => obj = .ref s.heap.objs.size ∧ s₁ = { s with heap := s.heap.push (newSet w) }) ⟨rfl, rfl⟩) fun r s₁ hr => ?_
  cases r with
  | error e => exact hr
  | ok fl =>
    cases fl with
    | ret obj =>
      obtain ⟨rfl, rfl⟩ := hr
      have hS : (s.heap.push (newSet w)).get? s.heap.objs.size = some (newSet w) := Heap.get?_push_size _ rfl
      have hT : Shared.TypeIs { s with heap := s.heap.push (newSet w) } (.ref s.heap.objs.size) "set" := ⟨_, hS, rfl⟩
      have hli := F.called_set.init.lookup
      have hbi := F.called_set.init.bind (.ref s.heap.objs.size)
      repeat (any_goals (first | assumption | wp_step))
      refine codeAny_mono (codeAny_call_builtin (R := wants (fun r s₂ => r = .none ∧ ∃ h2 tk L es ep t, s₂ = { s with heap := h2, toks := tk } ∧ St P w h2 s.heap.objs.size L es ep t ∧ Got ks ks.length L ∧
          (∀ b o, s.heap.get? b = some o → h2.get? b = some o)) E) F.called_set.init.plain F.entry_set_init (check_set_init_1 hT ?_)) fun r₂ s₂ hr₂ => ?_
      · obtain ⟨ol, hol, hcl, nl, hdl⟩ := hl
        obtain ⟨ocls, odict, odata, oslots⟩ := ol
        simp only at hcl hdl
        subst hcl; subst hdl
        have hol' : (s.heap.push (newSet w)).get? l = some { cls := .type "list", dict := odict, data := .seq items nl, slots := oslots } := Heap.get?_push_of_some _ hol
        have hsls := F.sub_list_set
        have hslf := F.sub_list_frozenset
        have hne : (Value.type "list" == Value.type "dict") = false := by decide
        have hl1 : (s.heap.push (newSet w)).IsList l items := ⟨_, hol', rfl, nl, rfl⟩
        unfold Builtin.«set.__init__» noKeywords Builtin.Frozenset.updateFrom
        generalize hPI : pyIter = PI
        wp_walk
        subst hPI
        refine wpAny_pyIter_list hl1 ?_
        refine wpAny_bind (wpAny_runValue ?_)
        have hlS : l < s.heap.objs.size := Heap.lt_size hol
        have hh3 : A.in1.in1.in1.handled = none := by simp [hh]
        have z1 : (s.heap.push (newSet w)).objs.size = s.heap.objs.size + 1 := Heap.size_push ..
        have hneI : l ≠ (s.heap.push (newSet w)).objs.size := by rw [z1]; exact Nat.ne_of_lt (Nat.lt_succ_of_lt hlS)
        have hSf : s.heap.objs.size ∉ [(s.heap.push (newSet w)).objs.size, l] := by
          rw [z1]
          exact fun z => (List.mem_cons.mp z).elim (fun z => absurd z (Nat.ne_of_lt (Nat.lt_succ_self _))) fun z => absurd (List.mem_singleton.mp z) (Nat.ne_of_gt hlS)
        have val : ∀ (i : Nat) (v : Value), items[i]? = some v → ∃ q, ks[i]? = some q ∧ v = .ref q.1 := fun i v hv => by
          have q : items.toList[i]? = some v := (Array.getElem?_toList).trans hv
          rw [hit, List.getElem?_map] at q
          obtain ⟨r, a, b⟩ := Option.map_eq_some_iff.mp q
          exact ⟨r, a, b.symm⟩
        have gone : ∀ b, s.heap.objs.size ≤ b → s.heap.get? b = none := fun b hb => by
          cases q : s.heap.get? b with
          | none => rfl
          | some o => exact absurd (Nat.lt_of_lt_of_le (Heap.lt_size q) hb) (Nat.lt_irrefl _)
        refine filled ((Walks.list hh3 _ l hneI items).toS) hSf size few val old (gone _ (Nat.le_refl _)) (fun b hb => gone b (by rw [List.mem_singleton.mp hb, z1]; exact Nat.le_succ _)) hu (items.size - 0) 0 _ (by omega) (Nat.zero_le _)
          ⟨⟨_, Heap.get?_push_size _ rfl, rfl, rfl⟩, (hl1.push _)⟩ (fun b o e => Heap.get?_push_of_some _ (Heap.get?_push_of_some _ e)) ?hS0 ?hR
        case hS0 =>
          have hget : ((s.heap.push (newSet w)).push { cls := .type "list_iterator", data := .fields #[.ref l, .int 0 0] }).get? s.heap.objs.size = some (newSet w) := Heap.get?_push_of_some _ hS
          exact ⟨_, _, _, _, st_new hget, Got.zero ks⟩
        case hR =>
          intro s2 L es ep t mv T g k
          obtain ⟨h2, g2, d2, tk2, os2⟩ := s2
          obtain rfl : g2 = s.gens := mv.gens
          obtain rfl : d2 = s.drawn := mv.drawn
          obtain rfl : os2 = s.os := mv.os
          show wpAny _ _ _ _ _ _
          refine wpAny_pure ?_
          show wpAny _ _ (ret Value.none) _ _ _
          rw [size] at g
          exact wpAny_pure ⟨rfl, h2, tk2, L, es, ep, t, rfl, T, g, k⟩
      · cases r₂ with
        | error e => exact hr₂
        | ok fl₂ =>
          cases fl₂ with
          | ret r =>
            obtain ⟨rfl, h2, tk, L, es, ep, t, rfl, T, g, k⟩ := hr₂
            repeat (any_goals (first | assumption | wp_step))
            exact h _ _ _ _ _ _ T g k
          | _ => exact hr₂.elim
    | _ => exact hr.elim
end
def ltI : List Int → List Int → Bool
  | [], [] => false
  | [], _ :: _ => true
  | _ :: _, [] => false
  | x :: a, y :: b => if x = y then ltI a b else decide (x < y)
def leI (a b : List Int) : Bool := !ltI b a
theorem ltI_asymm : ∀ {a b : List Int}, ltI a b = true → ltI b a = false
  | [], [], h => by cases h
  | [], y :: b, _ => rfl
  | x :: a, [], h => by cases h
  | x :: a, y :: b, h => by
    unfold ltI at h ⊢
    by_cases e : x = y
    · rw [if_pos e] at h; rw [if_pos e.symm]; exact ltI_asymm h
    · rw [if_neg e] at h
      rw [if_neg fun z => e z.symm]
      have := of_decide_eq_true h
      exact decide_eq_false (by omega)
theorem ltI_tri : ∀ {a b : List Int}, ltI a b = false → ltI b a = false → a = b
  | [], [], _, _ => rfl
  | [], y :: b, h, _ => by cases h
  | x :: a, [], _, h => by cases h
  | x :: a, y :: b, h1, h2 => by
    unfold ltI at h1 h2
    by_cases e : x = y
    · rw [if_pos e] at h1; rw [if_pos e.symm] at h2; rw [e, ltI_tri h1 h2]
    · rw [if_neg e] at h1
      rw [if_neg fun z => e z.symm] at h2
      have := of_decide_eq_false h1
      have := of_decide_eq_false h2
      omega
theorem ltI_trans : ∀ {a b c : List Int}, ltI a b = true → ltI b c = true → ltI a c = true
  | [], [], [], h1, _ => by cases h1
  | [], y :: b, [], _, h2 => by cases h2
  | [], _, _ :: _, _, _ => rfl
  | x :: a, [], _, h1, _ => by cases h1
  | x :: a, y :: b, [], _, h2 => by cases h2
  | x :: a, y :: b, z :: c, h1, h2 => by
    unfold ltI at h1 h2 ⊢
    by_cases e1 : x = y
    · rw [if_pos e1] at h1
      by_cases e2 : y = z
      · rw [if_pos e2] at h2; rw [if_pos (e1.trans e2)]; exact ltI_trans h1 h2
      · rw [if_neg e2] at h2; rw [e1, if_neg e2]; exact h2
    · rw [if_neg e1] at h1
      have l1 := of_decide_eq_true h1
      by_cases e2 : y = z
      · rw [← e2, if_neg e1]; exact h1
      · rw [if_neg e2] at h2
        have l2 := of_decide_eq_true h2
        rw [if_neg (by omega)]
        exact decide_eq_true (by omega)
theorem leI_trans (a b c : List Int) (h1 : leI a b = true) (h2 : leI b c = true) : leI a c = true := by
  unfold leI at *
  rw [Bool.not_eq_true'] at *
  cases h : ltI c a with
  | false => rfl
  | true =>
    cases q : ltI a b with
    | true => rw [ltI_trans h q] at h2; cases h2
    | false => rw [ltI_tri q h1] at h; rw [h] at h2; cases h2
theorem leI_total (a b : List Int) : (leI a b || leI b a) = true := by
  unfold leI
  cases h : ltI b a with
  | false => rfl
  | true => rw [ltI_asymm h]; rfl
theorem leI_anti {a b : List Int} (h1 : leI a b = true) (h2 : leI b a = true) : a = b := by
  unfold leI at h1 h2
  rw [Bool.not_eq_true'] at h1 h2
  exact ltI_tri h2 h1
abbrev pyI (l : List Int) : List PyData := l.map PyData.int
theorem lex_I : ∀ a b : List Int, PyProof.Rows.lexLt PyProof.Rows.itemOrd (PySem.W.keyToksAll (pyI a)) (PySem.W.keyToksAll (pyI b)) = ltI a b
  | [], [] => PyProof.Rows.lex_irrefl _
  | [], y :: b => by
    show PyProof.Rows.lexLt PyProof.Rows.itemOrd (PySem.W.keyToksAll []) (PySem.W.keyToksAll (.int y :: pyI b)) = true
    rw [PySem.W.toks_all_cons, PySem.W.keyToksAll, PyProof.Rows.lex_diff (by intro h; injection h with h; cases h)]
    rfl
  | x :: a, [] => by
    show PyProof.Rows.lexLt PyProof.Rows.itemOrd (PySem.W.keyToksAll (.int x :: pyI a)) (PySem.W.keyToksAll []) = false
    rw [PySem.W.toks_all_cons, PySem.W.keyToksAll, PyProof.Rows.lex_diff (by intro h; injection h with h; cases h)]
    rfl
  | x :: a, y :: b => by
    show PyProof.Rows.lexLt PyProof.Rows.itemOrd (PySem.W.keyToksAll (.int x :: pyI a)) (PySem.W.keyToksAll (.int y :: pyI b)) = _
    rw [PySem.W.dataLt_cons (by simp [PySem.W.alike]), lex_I a b, PyData.eqv, PySem.W.dataLt_int]
    conv => rhs; unfold ltI
    by_cases h : x = y
    · rw [if_pos h, if_pos (by rw [h]; exact beq_self_eq_true _)]
    · rw [if_neg h, if_neg (by rw [beq_iff_eq]; exact h)]
theorem lt_I (a b : List Int) : PySem.W.dataLt (.tuple (pyI a)) (.tuple (pyI b)) = ltI a b := by rw [PySem.W.dataLt_tuple, lex_I]
theorem alike_I (l : List (List Int)) : PySem.W.AllAlike (l.map fun a => .tuple (pyI a)) := by
  have h : ∀ a b : List Int, PySem.W.alikeAll (pyI a) (pyI b) = true := fun a => by
    induction a with
    | nil => intro b; show PySem.W.alikeAll [] _ = true; unfold PySem.W.alikeAll; rfl
    | cons x a ih =>
      intro b
      cases b with
      | nil => show PySem.W.alikeAll (_ :: _) [] = true; unfold PySem.W.alikeAll; rfl
      | cons y b => show PySem.W.alikeAll (.int x :: pyI a) (.int y :: pyI b) = true; rw [PySem.W.alikeAll, ih b]; rfl
  intro d hd d2 hd2
  obtain ⟨a, _, rfl⟩ := List.mem_map.mp hd
  obtain ⟨b, _, rfl⟩ := List.mem_map.mp hd2
  rw [PySem.W.alike]
  exact h a b
theorem depth_I (a : List Int) : (PyData.tuple (pyI a)).depth ≤ 2 := by
  have h : ∀ a : List Int, PyData.depthAll (pyI a) ≤ 1 := fun a => by
    induction a with
    | nil => show PyData.depthAll [] ≤ 1; rw [PyData.depthAll]; omega
    | cons x a ih => show PyData.depthAll (.int x :: pyI a) ≤ 1; rw [PyData.depthAll, PyData.depth]; omega
  rw [PyData.depth]
  have := h a
  omega
section
variable {P : Program} {w : World} {A : Around} {E : Value → Shared → Prop} {s : Shared}
theorem reads_I {h : Heap} {k : List Int} {b : Addr} (x : IsT P w h k b) : Reads h (.ref b) (.tuple (pyI k)) [] := by
  obtain ⟨o, items, n, ho, hc, hd, hi⟩ := x
  have all : ∀ {k : List Int} {us : List Value}, ItemsAre (intKind P w) k us → ReadsAll h us (pyI k) [] := by
    intro k us z
    induction z with
    | nil => exact .nil
    | @cons k0 v ks vs h1 _ ih =>
      obtain ⟨t, rfl⟩ := Value.isInt_shape h1
      exact .cons (as := []) (bs := []) (.int k0 t) ih
  exact .tuple ho hc hd (all hi)
theorem sorted_set {a : Addr} {L : List (Addr × List Int)} {es : Array (Int × Value)} {ep : Nat} {t : SetTable} {Q : Value → Shared → Prop} (R : St P w s.heap a L es ep t) (hh : A.handled = none) (hu : A.units + 10 < cLine) (few : L.length < 300) (full : ∀ q ∈ L, q.2 ≠ [])
    (hQ : ∀ s2 p (out : Array Value) (c : Nat) (L2 : List (Addr × List Int)), (∀ b o, s.heap.get? b = some o → s2.heap.get? b = some o) → s2.gens = s.gens → s2.os = s.os → s.heap.objs.size ≤ p →
      s2.heap.get? p = some (seqObj "list" out c) → out.toList = L2.map (fun q => Value.ref q.1) → L2.Perm L → L2.Pairwise (fun q r => leI q.2 r.2 = true) → Q (.ref p) s2) : wpAny (model P w) A (call (.builtin "sorted") [.ref a]) Q E s := by
  obtain ⟨o, ho, hex, hd⟩ := R.obj
  have sz := rows_size R.rws
  refine PySem.Calls.call_function_entry kind_sorted plain_sorted entry_sorted (args_sorted1 _) ?_
  unfold Builtin.«sorted»
  refine wpAny_bind (m := checkCount "sorted" 1 1 _) (wpAny_pure ?_)
  refine wpAny_bind (collect_set (A := A.in1) hh ⟨o, ho, hex.1, hd⟩ R.fits (by unfold scanBound; omega) R.tab.asc R.ordr fun s1 vs k1 hz g1 o1 pm => ?_)
  have vals : es.toList.map (·.2) = L.map fun q => Value.ref q.1 := by rw [R.rws, rowsOf, List.map_map]; rfl
  rw [vals] at pm
  -- the members in the order in which they come
  obtain ⟨L1, e1, p1⟩ : ∃ L1 : List (Addr × List Int), vs = L1.map (fun q => Value.ref q.1) ∧ L1.Perm L := by
    have h : ∀ {vs : List Value} {us : List Value}, vs.Perm us → ∀ L : List (Addr × List Int), us = L.map (fun q => Value.ref q.1) → ∃ L1 : List (Addr × List Int), vs = L1.map (fun q => Value.ref q.1) ∧ L1.Perm L := by
      intro vs us pm
      induction pm with
      | nil => intro L e; exact ⟨L, e, .refl L⟩
      | cons x _ ih =>
        intro L e
        cases L with
        | nil => cases e
        | cons q L =>
          injection e with e2 e3
          obtain ⟨L1, a, b⟩ := ih L e3
          exact ⟨q :: L1, by rw [e2, a]; rfl, b.cons q⟩
      | swap x y l =>
        intro L e
        match L, e with
        | q :: r :: L, e =>
          injection e with e2 e3
          injection e3 with e4 e5
          exact ⟨r :: q :: L, by rw [e2, e4, e5]; rfl, .swap q r L⟩
      | trans _ _ ih1 ih2 =>
        intro L e
        obtain ⟨L2, a, b⟩ := ih2 L e
        obtain ⟨L1, c, d⟩ := ih1 L2 a
        exact ⟨L1, c, d.trans b⟩
    exact h pm L rfl
  have len : vs.length = L.length := by rw [e1, List.length_map, p1.length_eq]
  refine wpAny_bind (wpAny_newList ?_ (by rw [len, sizeLine_eq]; omega))
  have at1 : (s1.heap.push (seqObj "list" vs.toArray 0)).get? s1.heap.objs.size = some (seqObj "list" vs.toArray 0) := Heap.get?_push_size _ rfl
  have enc_map : L1.map (fun q : Addr × List Int => PyData.tuple (pyI q.2)) = (L1.map (·.2)).map fun a => .tuple (pyI a) := by rw [List.map_map]; rfl
  have each : ∀ L : List (Addr × List Int), PySem.W.EachIs (fun (v : Value) (q : Addr × List Int) => v = .ref q.1 ∧ q ∈ L) (L.map fun q => Value.ref q.1) L := by
    have h : ∀ (M L : List (Addr × List Int)), (∀ q ∈ L, q ∈ M) → PySem.W.EachIs (fun (v : Value) (q : Addr × List Int) => v = .ref q.1 ∧ q ∈ M) (L.map fun q => Value.ref q.1) L := fun M L => by
      induction L with
      | nil => intro _; exact .nil
      | cons q L ih => intro z; exact .cons ⟨rfl, z q List.mem_cons_self⟩ (ih fun r hr => z r (.tail _ hr))
    exact fun L => h L L fun _ z => z
  have ev : PySem.W.EachIs (fun (v : Value) (q : Addr × List Int) => v = .ref q.1 ∧ q ∈ L1) vs L1 := by rw [e1]; exact each L1
  refine wpAny_bind (wpAny_holding (PySem.W.list_sort_data (s := { s1 with heap := s1.heap.push (seqObj "list" vs.toArray 0) }) (bs := L1) (enc := fun q => .tuple (pyI q.2)) (R := fun v q => v = .ref q.1) at1 (ev.mono fun _ _ z => z.1) (ev.mono fun v q z => ?_) (by rw [enc_map]; exact alike_I _) (.inl fun d hd => ?_)
    (by rw [p1.length_eq, sizeLine_eq]; omega) (fun q _ => ?_) fun out lo eo => ?_))
  · refine ⟨[], ?_, by simp⟩
    rw [z.1]
    exact reads_I (isT_keep (R.tups q (p1.mem_iff.mp z.2)) fun b u e => Heap.get?_push_of_some _ (k1 b u e))
  · obtain ⟨q, hq, rfl⟩ := List.mem_map.mp hd
    have := full q (p1.mem_iff.mp hq)
    cases hk : q.2 with
    | nil => exact (this hk).elim
    | cons x l => exact ⟨.int x, pyI l, rfl⟩
  · have := depth_I q.2
    show A.in1.units + 1 + _ < cLine
    have u1 : A.in1.units ≤ A.units + 2 := by first | exact Nat.le_refl _ | (simp [Around.in1]; done) | (show _ ≤ _; unfold Around.in1; simp)
    omega
  · obtain ⟨c, hc⟩ := sortedHeap_at (vs := vs) (out := out.toArray) at1
    have outs : out = (L1.mergeSort (PySem.W.dataLe false fun q : Addr × List Int => .tuple (pyI q.2))).map fun q => Value.ref q.1 := by
      have h : ∀ {us : List Value} {bs : List (Addr × List Int)}, PySem.W.EachIs (fun v q => v = .ref q.1) us bs → us = bs.map fun q => Value.ref q.1 := by
        intro us bs z
        induction z with
        | nil => rfl
        | cons h _ ih => rw [h, ih]; rfl
      exact h eo
    have leq : ∀ q r : Addr × List Int, PySem.W.dataLe false (fun q : Addr × List Int => .tuple (pyI q.2)) q r = leI q.2 r.2 := fun q r => by
      rw [PySem.W.dataLe_eq]
      dsimp only
      rw [cond_false, lt_I]; rfl
    have pw := List.pairwise_mergeSort (le := PySem.W.dataLe false fun q : Addr × List Int => .tuple (pyI q.2)) (fun a b c h1 h2 => ?tr) (fun a b => ?tot) L1
    case tr => rw [leq] at *; exact leI_trans _ _ _ h1 h2
    case tot => rw [leq, leq]; exact leI_total _ _
    refine wpAny_pure ⟨_, rfl, hQ _ s1.heap.objs.size out.toArray c (L1.mergeSort (PySem.W.dataLe false fun q : Addr × List Int => .tuple (pyI q.2))) (fun b u e => ?_) g1 o1 hz hc (by simpa using outs) ((List.mergeSort_perm _ _).trans p1) (pw.imp fun {q r} z => (leq q r).symm.trans z)⟩
    have q := k1 b u e
    have lt := Heap.lt_size q
    show (sortedHeap (s1.heap.push (seqObj "list" vs.toArray 0)) s1.heap.objs.size vs out.toArray).get? b = some u
    rw [sortedHeap_old (Nat.ne_of_lt lt) (by rw [size_push']; exact Nat.lt_succ_of_lt lt)]
    exact Heap.get?_push_of_some _ q
end
end Sw
namespace Dl
open PySem L2 PySem.Spec PyProof.Rows
def tI (k : List Int) : D := .tup (k.map D.int)
def tupsD : List D → Option (List (List Int))
  | [] => some []
  | .tup ds :: r => (intsD ds).bind fun k => (tupsD r).map (k :: ·)
  | _ :: _ => none
theorem tupsD_map : ∀ kss : List (List Int), tupsD (kss.map tI) = some kss
  | [] => rfl
  | k :: kss => by
    rw [List.map_cons]
    show (intsD (k.map D.int)).bind (fun k => (tupsD (kss.map tI)).map (k :: ·)) = _
    rw [intsD_map, tupsD_map kss]; rfl
theorem tupsD_inv : ∀ {ds : List D} {kss : List (List Int)}, tupsD ds = some kss → ds = kss.map tI
  | [], _, h => by cases h; rfl
  | .tup ds :: r, kss, h => by
    have h : (intsD ds).bind (fun k => (tupsD r).map (k :: ·)) = some kss := h
    cases q : intsD ds with
    | none => rw [q] at h; cases h
    | some k =>
      rw [q] at h
      cases q2 : tupsD r with
      | none => rw [q2] at h; cases h
      | some ks =>
        rw [q2] at h; cases h
        rw [List.map_cons, ← tupsD_inv q2, intsD_inv q]; rfl
  | .non :: _, _, h => by cases h
  | .bl _ :: _, _, h => by cases h
  | .int _ :: _, _, h => by cases h
  | .str _ :: _, _, h => by cases h
  | .lst _ :: _, _, h => by cases h
  | .obj _ _ :: _, _, h => by cases h
  | .dcK _ :: _, _, h => by cases h
  | .dcN _ :: _, _, h => by cases h
def onceI : List (List Int) → List (List Int)
  | [] => []
  | k :: l => if k ∈ onceI l then onceI l else k :: onceI l
theorem onceI_mem {x : List Int} : ∀ {l : List (List Int)}, x ∈ onceI l ↔ x ∈ l
  | [] => Iff.rfl
  | k :: l => by
    unfold onceI
    split
    · rename_i h
      rw [onceI_mem, List.mem_cons]
      exact ⟨.inr, fun z => z.elim (fun e => e ▸ onceI_mem.mp h) id⟩
    · rw [List.mem_cons, List.mem_cons, onceI_mem]
theorem onceI_nodup : ∀ l : List (List Int), (onceI l).Nodup
  | [] => .nil
  | k :: l => by
    unfold onceI
    split
    · exact onceI_nodup l
    · rename_i h
      exact List.nodup_cons.mpr ⟨h, onceI_nodup l⟩
def oSortSetU : D → Option D
  | .lst ds => match tupsD ds with
    | some kss => if (∀ k ∈ kss, k ≠ []) ∧ (onceI kss).length < 300 then some (.lst (((onceI kss).mergeSort Sw.leI).map tI)) else none
    | none => none
  | _ => none
theorem oSortSetU_run {kss : List (List Int)} (h2 : ∀ k ∈ kss, k ≠ []) (h3 : (onceI kss).length < 300) : oSortSetU (.lst (kss.map tI)) = some (.lst (((onceI kss).mergeSort Sw.leI).map tI)) := by
  unfold oSortSetU
  dsimp only
  rw [tupsD_map]
  dsimp only
  rw [if_pos ⟨h2, h3⟩]
theorem reps_tups {K : PySem.W.Frag} {mg : MG} {G : Hp} : ∀ {kss : List (List Int)} {us : List V}, Reps K mg G (kss.map tI) us → ∃ ks : List (Addr × List Int), ks.map (·.2) = kss ∧ us = (ks.map fun q => V.ref q.1) ∧ ∀ q ∈ ks, Rep K mg G (tI q.2) (.ref q.1) ∧ SqT K G q.1 (q.2.map V.int)
  | [], us, r => by
    rw [List.map_nil, reps_nil] at r
    exact ⟨[], rfl, r, fun q h => (nomatch h)⟩
  | k :: kss, us, r => by
    rw [List.map_cons, reps_cons] at r
    obtain ⟨v, r2, rfl, h1, h2⟩ := r
    obtain ⟨ks, e1, e2, e3⟩ := reps_tups h2
    have h3 : Rep K mg G (.tup (k.map D.int)) v := h1
    rw [rep_tup] at h3
    obtain ⟨a, vs, rfl, hq, hr⟩ := h3
    have ev := reps_ints_inv k hr
    subst ev
    refine ⟨(a, k) :: ks, by rw [List.map_cons, e1], by rw [e2]; rfl, fun q hq2 => ?_⟩
    rcases List.mem_cons.mp hq2 with e | hq2
    · subst e; exact ⟨h1, hq⟩
    · exact e3 q hq2
section
variable {X : Cx} {W : WX} {a : Expr} {ta : TE} {p1 p2 pos pos' : Pos}
def tSortSetU (K : PySem.W.Frag) (ta : TE) : TE := fun σ H Q => ta σ H fun x H1 => ∃ (l : Addr) (ks : List (Addr × List Int)), x = V.ref l ∧ SqL K H1 l (ks.map fun q => V.ref q.1) ∧ (∀ q ∈ ks, SqT K H1 q.1 (q.2.map V.int)) ∧ (∀ q ∈ ks, q.2 ≠ []) ∧ (onceI (ks.map (·.2))).length < 300 ∧
  ∀ p (M : List (Addr × List Int)), H1 p = none → (∀ q ∈ M, q ∈ ks) → M.map (·.2) = (onceI (ks.map (·.2))).mergeSort Sw.leI → Q (.ref p) (L2.upd H1 p (.lst (M.map fun q => V.ref q.1)))
theorem pe_sortSetU (hc : X.calm = true) (hu : X.A.units + 100 < cLine) (hg : Gl X "sorted") (hm : X.mg "sorted" = none) (hg2 : Gl X "set") (hm2 : X.mg "set" = none) (ha : PE X a ta)
    (na : starEach [a] X.env = (false, eval a X.env) :: starEach [] X.env := by rfl) : PE X (.Call (.Name "sorted" p1) [.Call (.Name "set" p2) [a] [] pos'] [] pos) (tSortSetU X.K ta) := by
  refine ⟨fun pins s σ H Q I h => ?_⟩
  refine Call_ (ld_blt I hg hm PyProof.Rows.boot_sorted ?_)
  refine PyProof.Rows.callWith_builtin1 (PyProof.Rows.args_cons ?_ rfl) rfl rfl
  refine Call_ (ld_blt I hg2 hm2 PyProof.Rows.boot_set ?_)
  refine PyProof.Rows.callWith_type1 (PyProof.Rows.args_cons (thn (ha.run pins s σ H _ I h) fun v s1 ⟨x, H1, I1, r1, q1⟩ => PyProof.Rows.args_nil ?_) na) na rfl
  obtain ⟨l, ks, rfl, hq, hT, hne, hfew, q1⟩ := q1
  cases r1
  obtain ⟨its, r, pl, hz⟩ := I1.list hq
  have few : ∀ l : List (List Int), l.Nodup → (∀ k ∈ l, k ∈ ks.map (·.2)) → l.length < 300 := fun l nd sub => Nat.lt_of_le_of_lt (List.Nodup.length_le_of_subset nd fun k hk => onceI_mem.mpr (sub k hk)) hfew
  refine Sw.call_set ks (I1.ok.hd hc) pl.isList (by simpa using refs_of_vals r) (fun q hq => I1.isT (hT q hq)) few (by show _ < _; omega) fun h' tk L es ep t hS g hk => ?_
  refine PyProof.Rows.args_nil ?_
  have I2 : Inv X pins σ H1 { s1 with heap := h', toks := tk } := I1.kept fun b o e => hk b o e
  have sub : ∀ q ∈ L, q ∈ ks := fun q hq => List.mem_of_mem_take (g.sub q hq)
  have lenL : L.length < 300 := by
    have := few (L.map (·.2)) hS.once fun k hk => by obtain ⟨q, hq, rfl⟩ := List.mem_map.mp hk; exact List.mem_map_of_mem (sub q hq)
    rwa [List.length_map] at this
  refine Sw.sorted_set hS (I1.ok.hd hc) (by show _ < _; omega) lenL (fun q hq => hne q (sub q hq)) fun s' p out c' M k g' o hp hg' hout pm pw => ?_
  have hn : H1 p = none := I2.hok.fresh hp
  have hl : (M.map fun q => V.ref q.1).length ≤ sizeLine := by rw [List.length_map, pm.length_eq, sizeLine_eq]; omega
  have hv : Vals (M.map fun q => V.ref q.1) out.toList := by rw [hout]; exact vals_of_refs M
  have eM : M.map (·.2) = (onceI (ks.map (·.2))).mergeSort Sw.leI := by
    refine List.Perm.eq_of_pairwise (le := fun a b => Sw.leI a b = true) (fun a b _ _ h1 h2 => Sw.leI_anti h1 h2) (List.pairwise_map.mpr pw) (List.pairwise_mergeSort Sw.leI_trans Sw.leI_total _) ?_
    refine List.Perm.trans ?_ (List.mergeSort_perm _ _).symm
    refine (List.perm_ext_iff_of_nodup ((pm.map (·.2)).nodup_iff.mpr hS.once) (onceI_nodup _)).mpr fun x => ?_
    rw [onceI_mem, (pm.map (·.2)).mem_iff]
    constructor
    · intro hx
      obtain ⟨q, hq, rfl⟩ := List.mem_map.mp hx
      exact List.mem_map_of_mem (sub q hq)
    · intro hx
      obtain ⟨q, hq, rfl⟩ := List.mem_map.mp hx
      exact g.all q (by rw [List.take_length]; exact hq)
  have J : Inv X pins σ (L2.upd H1 p (.lst (M.map fun q => V.ref q.1))) { ({ s1 with heap := h', toks := tk } : Shared) with heap := s'.heap, gens := s'.gens, drawn := s'.drawn, toks := s'.toks } :=
    I2.call (s := { s1 with heap := h', toks := tk }) (ch := []) (Un.laid k hp hn) (I2.hok.laid k hp ⟨hl, out.toList, c', hv, hg'⟩) (by rw [g']; exact I2.bare) (fun _ z => nomatch z)
  have e : s' = { s1 with heap := s'.heap, gens := s'.gens, drawn := s'.drawn, toks := s'.toks } := by
    cases s'
    cases s1
    cases o
    rfl
  rw [e]
  exact ⟨.ref p, _, J, rfl, q1 p M hn (fun q hq => sub q (pm.mem_iff.mp hq)) eM⟩
def eSortSetU (f : FE D) : FE D := fun ρ ω => (f ρ ω).bind fun x ω1 => Res.lift (oSortSetU x) ω1
theorem de_sortSetU {f : FE D} (hu : X.A.units + 100 < cLine) (hm : X.mg "sorted" = none) (hm2 : X.mg "set" = none) (ja : De X W a f) (hc : X.calm = true := by rfl) (hg : Gl X "sorted" := by rfl) (hg2 : Gl X "set" := by rfl)
    (na : starEach [a] X.env = (false, eval a X.env) :: starEach [] X.env := by rfl) : De X W (.Call (.Name "sorted" p1) [.Call (.Name "set" p2) [a] [] pos'] [] pos) (eSortSetU f) := by
  obtain ⟨t, p, k⟩ := ja
  refine ⟨_, pe_sortSetU hc hu hg hm hg2 hm2 p na, fun G α ρ ω σ H Q O S P => ?_⟩
  refine Post.step (t := t σ H) (k G α ρ ω σ H · O S) P fun d ω1 v G1 α1 H1 e1 O1 r1 P1 => ?_
  obtain ⟨d4, e4, P4⟩ := P1.lift
  unfold oSortSetU at e4
  split at e4
  · rename_i ds
    split at e4
    · rename_i kss hkss
      split at e4
      · rename_i hl
        cases e4
        have ed := tupsD_inv hkss
        subst ed
        have r1 : Rep X.K X.mg G1 (.lst (kss.map tI)) v := r1
        rw [rep_lst] at r1
        obtain ⟨b, us, rfl, hq, rs⟩ := r1
        obtain ⟨ks, e5, rfl, e6⟩ := reps_tups rs
        subst e5
        refine ⟨b, ks, rfl, sqL_same O1.sub hq, fun q hq => Same.sqT O1.sub (e6 q hq).2, fun q hq => hl.1 _ (List.mem_map_of_mem hq), hl.2, fun p M hp sub eM => ?_⟩
        refine Post.grow O1 (Grow.put O1.sub hp) (show Rep X.K X.mg _ _ _ from rep_newL (H := H1) (O1.sub.free hp) ?_) P4
        rw [← eM, List.map_map]
        have each : ∀ M : List (Addr × List Int), (∀ q ∈ M, q ∈ ks) → Reps X.K X.mg G1 (M.map (tI ∘ fun q => q.2)) (M.map fun q => V.ref q.1) := fun M => by
          induction M with
          | nil => intro _; rw [List.map_nil, List.map_nil, reps_nil]
          | cons q M ih =>
            intro z
            rw [List.map_cons, List.map_cons, reps_cons]
            exact ⟨_, _, rfl, (e6 q (z q List.mem_cons_self)).1, ih fun r hr => z r (.tail _ hr)⟩
        exact each M sub
      · cases e4
    · cases e4
  · cases e4
theorem eSortSetU_run (f : FE D) {ρ : Rho} {ω : Om} : eSortSetU f ρ ω = bindL (f ρ ω) (k := ⟨fun x ω1 => Res.lift (oSortSetU x) ω1⟩) := rfl
end
end Dl
noncomputable section
namespace Pk
open PySem Dl
def bd__law_counts_1 : FS :=
  (sSeq (sAsg (eCallP F__law_body (aCons (aVal (eVar 0)) (aCons (aVal (eIx (eVar 1) (eVar 7))) (aCons (aVal (eTup (aCons (aVal (eVar 3)) (aCons (aVal (eVar 8)) aNil)))) aNil)))) (gT 2 (gsCons (gN 9) (gsCons (gN 10) gsNil))))
    (sIf (eTest (eBin opGe (eVar 9) (eVar 6))) (sSeq (sSet 11 (eBin opAdd (eBin opAdd (eSl (eVar 5) eNoPart (ePart (eVar 7))) (eTup (aCons (aVal (eBin opAdd (eIx (eVar 5) (eVar 7)) (eC (.int 1)))) aNil))) (eSl (eVar 5) (ePart (eBin opAdd (eVar 7) (eC (.int 1)))) eNoPart)))
    (sNPut 4 (eTup (aCons (aVal (eVar 11)) (aCons (aVal (eVar 10)) aNil))) (eC (.bl true)))) sNext))
def bd__law_counts_2 : FS :=
  (sFor (eIt1 itSeq (eSl (eList (aCons (aVal (eC (.bl false))) (aCons (aVal (eC (.bl true))) aNil))) eNoPart (ePart (eBin opAdd (eC (.int 1)) (eCallB oInt (aCons (aVal (eCallP F__law_can (aCons (aVal (eIx (eVar 1) (eVar 7))) aNil))) aNil)))))) (gN 8)
    bd__law_counts_1)
def bd__law_counts_3 : FS :=
  (sFor (eIt1 itR1 (eCallB oLen (aCons (aVal (eVar 1)) aNil))) (gN 7)
    bd__law_counts_2)
def bd__law_counts_4 : FS :=
  (sSeq (sSetS 4 (eCopyN (eVar 2)))
    (sSeq (sFor (eIt1 itNKeys (eVar 2)) (gT 2 (gsCons (gN 5) (gsCons (gN 6) gsNil)))
    bd__law_counts_3)
    (sGf 4 (sSet 2 (eVar 4)))))
def lc__law_counts_5 : FE D :=
  (eLc [5, 6] (eIt1 itNKeys (eVar 2)) (gT 2 (gsCons (gN 5) (gsCons (gN 6) gsNil))) eTrue (eVar 5))
def f__law_counts : FS :=
  (sSeq (sSet 2 (eNDisp (eTup (aCons (aVal (eBin opMulA (eTup (aCons (aVal (eC (.int 0))) aNil)) (eCallB oLen (aCons (aVal (eVar 1)) aNil)))) (aCons (aVal (eUn opNeg (eC (.int 1000)))) aNil))) (eC (.bl true))))
    (sSeq (sFor (eIt1 itR1 (eCallB oLen (aCons (aVal (eVar 0)) aNil))) (gN 3)
    bd__law_counts_4)
    (sRet (eSortSetU lc__law_counts_5))))
def F__law_counts : FnP := fnP 2 12 f__law_counts
def tr__law_wrong_7_1 : FS :=
  (sSet 3 (eIf (eTest (eBin opEq (eVar 2) (eC (.str "fullest")))) (eCallP F_fullest (aCons (aVal (eVar 0)) (aCons (aVal (eVar 1)) aNil))) (eCallP F_holds (aCons (aVal (eVar 0)) (aCons (aVal (eVar 1)) (aCons (aVal (eVar 2)) aNil))))))
def f__law_wrong_7 : FS :=
  (sSeq (sSet 3 (eC .non))
    (sSeq (sTry ["BadSockets", "BadCounts", "BadPlugs"] 4 tr__law_wrong_7_1 [("BadPlugs", fun x => sSet 3 ((fun x => eIf (eTest ((eIsx "StripError") x)) ((fun x => eList ((fun x => aCons (aVal ((fun _ => (eC (.str "plugs"))) x)) ((fun x => aCons (aVal ((eXf "BadPlugs" "index") x)) ((fun _ => aNil) x)) x)) x)) x) ((fun _ => (eC (.str "another"))) x)) x)), ("BadCounts", fun x => sSet 3 ((fun x => eIf (eTest ((eIsx "StripError") x)) ((fun _ => (eC (.str "counts"))) x) ((fun _ => (eC (.str "another"))) x)) x))])
    (sRet (eVar 3))))
def F__law_wrong_7 : FnP := fnP 3 5 f__law_wrong_7
def lc_law_30_1 : FE D :=
  (eLc [16] (eIt1 itSeq (eVar 4)) (gN 16) (eTest (eBin opNe (eVar 16) (eVar 3))) (eVar 16))
def lc_law_30_2 : FE D :=
  (eLc [16] (eIt1 itSeq (eVar 13)) (gN 16) (eTest (eBin opGe (eIx (eVar 16) (eVar 14)) (eIx (eVar 3) (eVar 14)))) (eVar 16))
def bd_law_30_3 : FS :=
  (sSet 13 lc_law_30_2)
def bd_law_30_4 : FS :=
  (sSeq (sSet 13 lc_law_30_1)
    (sSeq (sFor (eIt1 itR1 (eCallB oLen (aCons (aVal (eVar 11)) aNil))) (gN 14)
    bd_law_30_3)
    (sIf (eTest (eBin opEq (eVar 13) (eList aNil))) (sApp 2 (eVar 3)) sNext)))
def lc_law_30_5 : FE D :=
  (eLc [14] (eIt1 itSeq (eVar 11)) (gN 14) eTrue (eVal (eCallE F__law_pick (aCons (eSlot 1) (aCons (aVal (eC (.int 4))) aNil)))))
def bd_law_30_6 : FS :=
  (sSeq (sSet 3 (eCallB oTuple (aCons (aVal lc_law_30_5) aNil)))
    (sIf (eTest (eBin opNe (eCallP F_holds (aCons (aVal (eVar 12)) (aCons (aVal (eVar 11)) (aCons (aVal (eVar 3)) aNil)))) (eBin (opInD false) (eVar 3) (eVar 4)))) (sRet (eC (.bl false))) sNext))
def f_law_30 : FS :=
  (sSeq (sSetS 1 (eCallE F__law_draws (aCons (aVal (eVar 0)) aNil)))
    (sSeq (sPar 10 11 (aCons (aVal (eVal (eCallE F__law_sockets (aCons (eSlot 1) (aCons (aVal (eC (.int 6))) aNil))))) (aCons (aVal (eVal (eCallE F__law_plugs (aCons (eSlot 1) (aCons (aVal (eC (.int 3))) aNil))))) aNil)))
    (sSeq (sPar 12 4 (aCons (aVal (eMake "Strip" F_Strip_d__init_d__2 (aCons (aVal (eVar 10)) aNil))) (aCons (aVal (eCallP F__law_counts (aCons (aVal (eVar 10)) (aCons (aVal (eVar 11)) aNil)))) aNil)))
    (sSeq (sNewL 2 aNil)
    (sSeq (sFor (eIt1 itSeq (eVar 4)) (gN 3)
    bd_law_30_4)
    (sSeq (sIf (eTest (eBinO opNe (eCallP F_fullest (aCons (aVal (eVar 12)) (aCons (aVal (eVar 11)) aNil))) (eOwnL 2))) (sRet (eC (.bl false))) sNext)
    (sSeq (sFor (eIt1 itR1 (eC (.int 4))) (gN 5)
    bd_law_30_6)
    (sSeq (sSet 6 (eList (aCons (aVal (eC .non)) (aCons (aVal (eCallB oList (aCons (aVal (eVar 3)) aNil))) (aCons (aVal (eBin opAdd (eVar 3) (eTup (aCons (aVal (eC (.int 0))) aNil)))) (aCons (aVal (eSl (eVar 3) (ePart (eC (.int 1))) eNoPart)) (aCons (aVal (eBin opAdd (eTup (aCons (aVal (eC (.int 10))) aNil)) (eSl (eVar 3) (ePart (eC (.int 1))) eNoPart))) (aCons (aVal (eBin opAdd (eTup (aCons (aVal (eUn opNeg (eC (.int 1)))) aNil)) (eSl (eVar 3) (ePart (eC (.int 1))) eNoPart))) (aCons (aVal (eBin opAdd (eTup (aCons (aVal (eC (.bl true))) aNil)) (eSl (eVar 3) (ePart (eC (.int 1))) eNoPart))) aNil)))))))))
    (sSeq (sPar 7 15 (aCons (aVal (eVal (eCallE F__law_pick (aCons (eSlot 1) (aCons (aVal (eCallB oLen (aCons (aVal (eVar 3)) aNil))) aNil))))) (aCons (aVal (eIx (eList (aCons (aVal (eC (.int 10))) (aCons (aVal (eUn opNeg (eC (.int 1)))) (aCons (aVal (eC (.bl true))) (aCons (aVal (eC .non)) (aCons (aVal (eC (.str "1"))) aNil)))))) (eVal (eCallE F__law_pick (aCons (eSlot 1) (aCons (aVal (eC (.int 5))) aNil)))))) aNil)))
    (sSeq (sSet 6 (eBin opAdd (eVar 6) (eBin opMulB (eList (aCons (aVal (eBin opAdd (eBin opAdd (eSl (eVar 3) eNoPart (ePart (eVar 7))) (eTup (aCons (aVal (eVar 15)) aNil))) (eSl (eVar 3) (ePart (eBin opAdd (eVar 7) (eC (.int 1)))) eNoPart))) aNil)) (eC (.int 5)))))
    (sSeq (sIf (eTest (eBin opNe (eCallP F__law_wrong_7 (aCons (aVal (eVar 12)) (aCons (aVal (eVar 11)) (aCons (aVal (eIx (eVar 6) (eVal (eCallE F__law_pick (aCons (eSlot 1) (aCons (aVal (eC (.int 12))) aNil)))))) aNil)))) (eC (.str "counts")))) (sRet (eC (.bl false))) sNext)
    (sSeq (sSet 7 (eVal (eCallE F__law_pick (aCons (eSlot 1) (aCons (aVal (eCallB oLen (aCons (aVal (eVar 11)) aNil))) aNil)))))
    (sSeq (sSet 8 (eBin opAdd (eBin opAdd (eSl (eVar 11) eNoPart (ePart (eVar 7))) (eTup (aCons (aVal (eVal (eCallE F__law_odd_plug (aCons (eSlot 1) aNil)))) aNil))) (eSl (eVar 11) (ePart (eBin opAdd (eVar 7) (eC (.int 1)))) eNoPart)))
    (sSeq (sSet 9 (eIx (eList (aCons (aVal (eC .non)) (aCons (aVal (eC (.str "fullest"))) aNil))) (eVal (eCallE F__law_pick (aCons (eSlot 1) (aCons (aVal (eC (.int 2))) aNil))))))
    (sSeq (sIf (eTest (eBin opNe (eCallP F__law_wrong_7 (aCons (aVal (eVar 12)) (aCons (aVal (eVar 8)) (aCons (aVal (eVar 9)) aNil)))) (eList (aCons (aVal (eC (.str "plugs"))) (aCons (aVal (eVar 7)) aNil))))) (sRet (eC (.bl false))) sNext)
    (sRet (eBin opEq (eCallP F__law_wrong_7 (aCons (aVal (eVar 12)) (aCons (aVal (eBin opMulA (eTup (aCons (aVal (eTup (aCons (aVal (eC (.int 0))) (aCons (aVal (eC (.int 0))) (aCons (aVal (eC (.bl true))) aNil))))) aNil)) (eC (.int 4)))) (aCons (aVal (eVar 9)) aNil)))) (eList (aCons (aVal (eC (.str "plugs"))) (aCons (aVal (eC .non)) aNil))))))))))))))))))))
def F_law_30 : FnP := fnP 1 17 f_law_30
end Pk
namespace Pk
open PySem Dl L2
local macro_rules
  | `(tactic| push_cast [$xs,*]) => `(tactic| simp -implicitDefEqProofs only [↓eC_run, ↓eVar_run, ↓eSlot_run, ↓eBin_run, ↓eUn_run, ↓eTest_run, ↓eAndT_run, ↓eOrT_run, ↓eNotT_run, ↓eTrue_run, ↓eAnd_run, ↓eOr_run, ↓eNot_run, ↓eIf_run, ↓aNil_run, ↓aCons_run, ↓aVal_run, ↓eTup_run, ↓eList_run, ↓eLst_run, ↓eCallB_run, ↓eOnL_run, ↓eIsi_run, ↓eSl_run, ↓ePart_run, ↓eNoPart_run, ↓eChain_run, ↓eIxO_run, ↓eOwnL_run, ↓sNext_run, ↓sSeq_run, ↓sIf_run, ↓sExpr_run, ↓sRet_run, ↓sRetS_run, ↓sRetN_run, ↓sBreak_run, ↓sCont_run, ↓sAsg_run, ↓sSetS_run, ↓sPar_run, ↓sFor_run, ↓sWhile_run, ↓eIt1_run, ↓eIt2_run, ↓eIt3_run, ↓eLc_run, ↓eLc2_run, ↓sNewL_run, ↓sApp_run, ↓sSetIx_run, ↓sRetL_run, ↓sRetNew_run, ↓eCallP_run, ↓eCallE_run, ↓eVal_run, ↓eMake_run, ↓eFld_run, ↓sRaise_run, ↓sRaiseI_run, ↓sTry_run, ↓eIsx_run, ↓sPar3_run, ↓eNewL_run, ↓eNDisp_run, ↓eKDisp_run, ↓eEmptyK_run, ↓eNewN_run, ↓eKM_run, ↓eNGet_run, ↓eKGet_run, ↓eNGetO_run, ↓eCopyN_run, ↓sNPut_run, ↓aStar_run, ↓eRg1_run, ↓eIsi2_run, ↓eCopyL_run, ↓eNVals_run, bind_ok, bind_exc, out_ok, out_exc, lift_some, obind_next, obind_ret, obind_exc, obind_brk, obind_cont, varR_run, slotR_run, asBl_run, allD_nil, allD_cons, asLst_run, asI_run, chR_run, ownK_run, ownKR_run, ownL_run, ownLR_run, someR_run, someO_run, ixI_run, parR_run, gN_run, gsNil_run, gsCons_run, itSeq_lst, itSeq_tup, itEn_lst, itEn_tup, itZ_lst, itZ_tup, wipeR_nil, wipeR_cons, setIxR_run, finP_ret, finP_next, finP_exc, finE_ret, finE_next, finE_exc, callR_ok, callR_err, valR_run, makeR_ok, makeR_exc, opAdd_int, opI_run, opB_run, opMulA_int, opEq_run, opNe_run, opIsN_run, opNotN_run, opIx_tup, opIx_lst, opNeg_run, oLen_tup, oLen_lst, oInt_int, oInt_bl, oTuple_tup, oTuple_lst, oList_tup, oList_lst, oTupleL_run, oListL_run, oLenL_run, isi_int_non, isi_int_bl, isi_int_int, isi_int_str, isi_int_tup, isi_int_lst, isi_bool_non, isi_bool_bl, isi_bool_int, isi_bool_str, isi_bool_tup, isi_bool_lst, isi_tuple_non, isi_tuple_bl, isi_tuple_int, isi_tuple_str, isi_tuple_tup, isi_tuple_lst, isi_str_non, isi_str_bl, isi_str_int, isi_str_str, isi_str_tup, isi_str_lst, isi_list_non, isi_list_bl, isi_list_int, isi_list_str, isi_list_tup, isi_list_lst, atI_0, atI_1, atI_2, atI_3, atI_4, atI_5, atI_6, atI_7, atI_8, ixN_1_0, ixN_2_0, ixN_2_1, ixN_3_0, ixN_3_1, ixN_3_2, ixN_4_0, ixN_4_1, ixN_4_2, ixN_4_3, ixN_5_0, ixN_5_1, ixN_5_2, ixN_5_3, ixN_5_4, eqD_int, eqD_bl, eqD_non_non, isNon_non, isNon_bl, isNon_int, isNon_str, isNon_tup, isNon_lst, Option.map_some, Option.map_none, Option.bind_some, List.getElem?_cons_zero, List.getElem?_cons_succ, List.set_cons_zero, List.set_cons_succ, List.map_cons, List.map_nil, List.length_cons, List.length_nil, List.cons_append, List.nil_append, rho0, List.replicate, List.take_succ_cons, List.take_zero, List.take_nil, List.take_length, and_self, Bool.false_eq_true, Bool.not_true, Bool.not_false, decide_true, decide_false, raiseI_run1, raiseI_run2, tryO_next, tryO_ret, tryH_nil, unbind_next, unbind_ret, eXf_run, par3R_run, newLR_0, newLR_1, kmR_run, kmR2_run, asK_run, asN_run, getRL_run, getKL_run, ngo0_run, ngo1_run, ngoR_run, ownN_run, ownNR_run, npK_run, starR_run, itNItems_run, itNKeys_run, oDictK_run, opIn2_K, opKIx_run, keyK_int, copyLR_lst, copyLR_tup, gT2_run, nValsD_run, Option.getD_some, tup_0, lst_0, tup_1, lst_1, tup_2, lst_2, tup_3, lst_3, tup_4, lst_4, tup_5, lst_5, tup_6, lst_6, tup_7, lst_7, tup_8, lst_8, tup_9, lst_9, tup_10, lst_10, tup_11, lst_11, tup_12, lst_12, new_0, new_1, new_2, new_3, new_4, new_5, ↓reduceIte, Nat.reduceAdd, $xs,*])
  | `(tactic| push_cast [$xs,*] at $h:ident) => `(tactic| simp -implicitDefEqProofs only [↓eC_run, ↓eVar_run, ↓eSlot_run, ↓eBin_run, ↓eUn_run, ↓eTest_run, ↓eAndT_run, ↓eOrT_run, ↓eNotT_run, ↓eTrue_run, ↓eAnd_run, ↓eOr_run, ↓eNot_run, ↓eIf_run, ↓aNil_run, ↓aCons_run, ↓aVal_run, ↓eTup_run, ↓eList_run, ↓eLst_run, ↓eCallB_run, ↓eOnL_run, ↓eIsi_run, ↓eSl_run, ↓ePart_run, ↓eNoPart_run, ↓eChain_run, ↓eIxO_run, ↓eOwnL_run, ↓sNext_run, ↓sSeq_run, ↓sIf_run, ↓sExpr_run, ↓sRet_run, ↓sRetS_run, ↓sRetN_run, ↓sBreak_run, ↓sCont_run, ↓sAsg_run, ↓sSetS_run, ↓sPar_run, ↓sFor_run, ↓sWhile_run, ↓eIt1_run, ↓eIt2_run, ↓eIt3_run, ↓eLc_run, ↓eLc2_run, ↓sNewL_run, ↓sApp_run, ↓sSetIx_run, ↓sRetL_run, ↓sRetNew_run, ↓eCallP_run, ↓eCallE_run, ↓eVal_run, ↓eMake_run, ↓eFld_run, ↓sRaise_run, ↓sRaiseI_run, ↓sTry_run, ↓eIsx_run, ↓sPar3_run, ↓eNewL_run, ↓eNDisp_run, ↓eKDisp_run, ↓eEmptyK_run, ↓eNewN_run, ↓eKM_run, ↓eNGet_run, ↓eKGet_run, ↓eNGetO_run, ↓eCopyN_run, ↓sNPut_run, ↓aStar_run, ↓eRg1_run, ↓eIsi2_run, ↓eCopyL_run, ↓eNVals_run, bind_ok, bind_exc, out_ok, out_exc, lift_some, obind_next, obind_ret, obind_exc, obind_brk, obind_cont, varR_run, slotR_run, asBl_run, allD_nil, allD_cons, asLst_run, asI_run, chR_run, ownK_run, ownKR_run, ownL_run, ownLR_run, someR_run, someO_run, ixI_run, parR_run, gN_run, gsNil_run, gsCons_run, itSeq_lst, itSeq_tup, itEn_lst, itEn_tup, itZ_lst, itZ_tup, wipeR_nil, wipeR_cons, setIxR_run, finP_ret, finP_next, finP_exc, finE_ret, finE_next, finE_exc, callR_ok, callR_err, valR_run, makeR_ok, makeR_exc, opAdd_int, opI_run, opB_run, opMulA_int, opEq_run, opNe_run, opIsN_run, opNotN_run, opIx_tup, opIx_lst, opNeg_run, oLen_tup, oLen_lst, oInt_int, oInt_bl, oTuple_tup, oTuple_lst, oList_tup, oList_lst, oTupleL_run, oListL_run, oLenL_run, isi_int_non, isi_int_bl, isi_int_int, isi_int_str, isi_int_tup, isi_int_lst, isi_bool_non, isi_bool_bl, isi_bool_int, isi_bool_str, isi_bool_tup, isi_bool_lst, isi_tuple_non, isi_tuple_bl, isi_tuple_int, isi_tuple_str, isi_tuple_tup, isi_tuple_lst, isi_str_non, isi_str_bl, isi_str_int, isi_str_str, isi_str_tup, isi_str_lst, isi_list_non, isi_list_bl, isi_list_int, isi_list_str, isi_list_tup, isi_list_lst, atI_0, atI_1, atI_2, atI_3, atI_4, atI_5, atI_6, atI_7, atI_8, ixN_1_0, ixN_2_0, ixN_2_1, ixN_3_0, ixN_3_1, ixN_3_2, ixN_4_0, ixN_4_1, ixN_4_2, ixN_4_3, ixN_5_0, ixN_5_1, ixN_5_2, ixN_5_3, ixN_5_4, eqD_int, eqD_bl, eqD_non_non, isNon_non, isNon_bl, isNon_int, isNon_str, isNon_tup, isNon_lst, Option.map_some, Option.map_none, Option.bind_some, List.getElem?_cons_zero, List.getElem?_cons_succ, List.set_cons_zero, List.set_cons_succ, List.map_cons, List.map_nil, List.length_cons, List.length_nil, List.cons_append, List.nil_append, rho0, List.replicate, List.take_succ_cons, List.take_zero, List.take_nil, List.take_length, and_self, Bool.false_eq_true, Bool.not_true, Bool.not_false, decide_true, decide_false, raiseI_run1, raiseI_run2, tryO_next, tryO_ret, tryH_nil, unbind_next, unbind_ret, eXf_run, par3R_run, newLR_0, newLR_1, kmR_run, kmR2_run, asK_run, asN_run, getRL_run, getKL_run, ngo0_run, ngo1_run, ngoR_run, ownN_run, ownNR_run, npK_run, starR_run, itNItems_run, itNKeys_run, oDictK_run, opIn2_K, opKIx_run, keyK_int, copyLR_lst, copyLR_tup, gT2_run, nValsD_run, Option.getD_some, tup_0, lst_0, tup_1, lst_1, tup_2, lst_2, tup_3, lst_3, tup_4, lst_4, tup_5, lst_5, tup_6, lst_6, tup_7, lst_7, tup_8, lst_8, tup_9, lst_9, tup_10, lst_10, tup_11, lst_11, tup_12, lst_12, new_0, new_1, new_2, new_3, new_4, new_5, ↓reduceIte, Nat.reduceAdd, $xs,*] at $h:ident)
def rowD (ns : List Int) (a b c : Int) : List D := [.lst (ns.map D.int), .int a, .int b, .int c]
structure RowOk (a b c : Int) : Prop where
  a0 : 0 ≤ a
  b0 : 0 ≤ b
  c0 : 0 ≤ c
  c1 : c < 2147483647
def IsRow (ns : List Int) (rest ω : Om) : Prop := ∃ a b c, RowOk a b c ∧ ω = some (.lst (rowD ns a b c)) :: rest
theorem pick_pos (ns : List Int) (rest : Om) (a b c m : Int) (hb0 : 0 < b) (hm : 0 < m ∧ m < 1073741824) : F__law_pick [.own 0, .val (.int m)] (some (.lst (rowD ns a b c)) :: rest) = .ok (.val (.int (b % m))) (some (.lst (rowD ns a (b / m) c)) :: rest) := by
  have h1 : (b == 0) = false := by simp; omega
  have h2 : decide (0 < b) = true := by simp; omega
  unfold F__law_pick
  rw [fnE_run (by rfl)]
  unfold f__law_pick rowD
  push_cast [h1, h2, hm.1, hm.2]
theorem pick_end (ns : List Int) (rest : Om) (a c m : Int) (ha : ¬ a < ns.length) (hc : 0 ≤ c ∧ c < 2147483647) (hm : 0 < m) : ∃ c', 0 ≤ c' ∧ c' < 2147483647 ∧
    F__law_pick [.own 0, .val (.int m)] (some (.lst (rowD ns a 0 c)) :: rest) = .ok (.val (.int (c' * 16807 % 2147483629 % m))) (some (.lst (rowD ns a 0 c')) :: rest) := by
  refine ⟨(c * 48271 + 7) % 2147483647, Int.emod_nonneg _ (by decide), Int.emod_lt_of_pos _ (by decide), ?_⟩
  have g : ∀ x y : Int, (-bnd < x ∧ x < bnd ∨ -bnd < y ∧ y < bnd) → (if -bnd < x ∧ x < bnd ∨ -bnd < y ∧ y < bnd then some (x * y) else none) = some (x * y) := fun x y h => if_pos h
  have g1 : (-bnd < c ∧ c < bnd ∨ -bnd < (48271 : Int) ∧ (48271 : Int) < bnd) := .inr ⟨by decide, by decide⟩
  have g2 : ∀ z : Int, (-bnd < z ∧ z < bnd ∨ -bnd < (16807 : Int) ∧ (16807 : Int) < bnd) := fun _ => .inr ⟨by decide, by decide⟩
  have h1 : decide (a < (ns.length : Int)) = false := by simp; omega
  unfold F__law_pick
  rw [fnE_run (by rfl)]
  unfold f__law_pick rowD
  have e1 : decide ((0 : Int) < 0) = false := rfl
  have e2 : ((0 : Int) == 0) = true := rfl
  have e3 : (0 : Int) < 2147483647 := by decide
  have e4 : (0 : Int) < 2147483629 := by decide
  push_cast [List.length_map, h1, e1, e2, g1, g2, e3, e4, hm]
theorem pick_big (ns : List Int) (rest : Om) (j : Nat) (z c m : Int) (hz : ns[j]? = some z) (hb : 1000000000000000000 ≤ z) (hm : 0 < m ∧ m < 1073741824) :
    F__law_pick [.own 0, .val (.int m)] (some (.lst (rowD ns j 0 c)) :: rest) = .ok (.val (.int (z % m))) (some (.lst (rowD ns (j + 1) (z / m) c)) :: rest) := by
  have hl : j < ns.length := (List.getElem?_eq_some_iff.mp hz).1
  have h1 : decide ((j : Int) < (ns.length : Int)) = true := by simp; omega
  have h2 : atI (ns.map D.int) (j : Int) = some (.int z) := by rw [atI_get' (by omega)]; simp [hz]
  have h3 : decide ((10 : Int) ^ Int.toNat 18 ≤ z) = true := by
    have : (10 : Int) ^ Int.toNat 18 = 1000000000000000000 := by decide
    rw [this]; simp; exact hb
  have h4 : decide (0 < z) = true := by simp; omega
  have g0 : (0 : Int) ≤ 18 ∧ (18 : Int) ≤ 1000000 ∧ (10 : Int).natAbs < 18446744073709551616 := by decide
  unfold F__law_pick
  rw [fnE_run (by rfl)]
  unfold f__law_pick rowD
  have e2 : ((0 : Int) == 0) = true := rfl
  push_cast [List.length_map, h1, h2, h3, h4, e2, g0, hm.1, hm.2]
theorem pick_small (ns : List Int) (rest : Om) (j : Nat) (z c m : Int) (hz : ns[j]? = some z) (hb : ¬ 1000000000000000000 ≤ z) (hc : 0 ≤ c ∧ c < 2147483647) (hm : 0 < m) : ∃ c', 0 ≤ c' ∧ c' < 2147483647 ∧
    F__law_pick [.own 0, .val (.int m)] (some (.lst (rowD ns j 0 c)) :: rest) = .ok (.val (.int (c' * 16807 % 2147483629 % m))) (some (.lst (rowD ns (j + 1) 0 c')) :: rest) := by
  refine ⟨(c * 48271 + z * 69621 + 11) % 2147483647, Int.emod_nonneg _ (by decide), Int.emod_lt_of_pos _ (by decide), ?_⟩
  have hl : j < ns.length := (List.getElem?_eq_some_iff.mp hz).1
  have h1 : decide ((j : Int) < (ns.length : Int)) = true := by simp; omega
  have h2 : atI (ns.map D.int) (j : Int) = some (.int z) := by rw [atI_get' (by omega)]; simp [hz]
  have h3 : decide ((10 : Int) ^ Int.toNat 18 ≤ z) = false := by
    have : (10 : Int) ^ Int.toNat 18 = 1000000000000000000 := by decide
    rw [this]; simp; omega
  have g0 : (0 : Int) ≤ 18 ∧ (18 : Int) ≤ 1000000 ∧ (10 : Int).natAbs < 18446744073709551616 := by decide
  have g1 : ∀ z : Int, (-bnd < z ∧ z < bnd ∨ -bnd < (48271 : Int) ∧ (48271 : Int) < bnd) := fun _ => .inr ⟨by decide, by decide⟩
  have g3 : ∀ z : Int, (-bnd < z ∧ z < bnd ∨ -bnd < (69621 : Int) ∧ (69621 : Int) < bnd) := fun _ => .inr ⟨by decide, by decide⟩
  have g2 : ∀ z : Int, (-bnd < z ∧ z < bnd ∨ -bnd < (16807 : Int) ∧ (16807 : Int) < bnd) := fun _ => .inr ⟨by decide, by decide⟩
  unfold F__law_pick
  rw [fnE_run (by rfl)]
  unfold f__law_pick rowD
  have e1 : decide ((0 : Int) < 0) = false := rfl
  have e2 : ((0 : Int) == 0) = true := rfl
  have e3 : (0 : Int) < 2147483647 := by decide
  have e4 : (0 : Int) < 2147483629 := by decide
  push_cast [List.length_map, h1, h2, h3, e1, e2, g0, g1, g2, g3, e3, e4, hm]
theorem pick {ns : List Int} {rest ω : Om} {m : Int} (h : IsRow ns rest ω) (hm : 0 < m) (hm' : m < 1073741824) : ∃ r ω', IsRow ns rest ω' ∧ 0 ≤ r ∧ r < m ∧ F__law_pick [.own 0, .val (.int m)] ω = .ok (.val (.int r)) ω' := by
  obtain ⟨a, b, c, k, rfl⟩ := h
  by_cases hb : 0 < b
  · exact ⟨_, _, ⟨a, b / m, c, ⟨k.a0, Int.ediv_nonneg k.b0 (by omega), k.c0, k.c1⟩, rfl⟩, Int.emod_nonneg _ (by omega), Int.emod_lt_of_pos _ hm, pick_pos ns rest a b c m hb ⟨hm, hm'⟩⟩
  · have : b = 0 := by have := k.b0; omega
    subst this
    by_cases ha : a < ns.length
    · obtain ⟨j, rfl⟩ : ∃ j : Nat, a = j := ⟨a.toNat, by have := k.a0; omega⟩
      have hj : j < ns.length := by omega
      have hz : ns[j]? = some ns[j] := List.getElem?_eq_getElem hj
      by_cases hb : 1000000000000000000 ≤ ns[j]
      · exact ⟨_, _, ⟨j + 1, ns[j] / m, c, ⟨by omega, Int.ediv_nonneg (by omega) (by omega), k.c0, k.c1⟩, rfl⟩, Int.emod_nonneg _ (by omega), Int.emod_lt_of_pos _ hm, pick_big ns rest j ns[j] c m hz hb ⟨hm, hm'⟩⟩
      · obtain ⟨c', h1, h2, h3⟩ := pick_small ns rest j ns[j] c m hz hb ⟨k.c0, k.c1⟩ hm
        exact ⟨_, _, ⟨j + 1, 0, c', ⟨by omega, by omega, h1, h2⟩, rfl⟩, Int.emod_nonneg _ (by omega), Int.emod_lt_of_pos _ hm, h3⟩
    · obtain ⟨c', h1, h2, h3⟩ := pick_end ns rest a c m ha ⟨k.c0, k.c1⟩ hm
      exact ⟨_, _, ⟨a, 0, c', ⟨k.a0, by omega, h1, h2⟩, rfl⟩, Int.emod_nonneg _ (by omega), Int.emod_lt_of_pos _ hm, h3⟩
theorem draws_run (ns : List Int) : F__law_draws [.val (.lst (ns.map D.int))] [] = .ok (.own 0) [some (.lst (rowD ns 0 0 7))] := by
  unfold F__law_draws
  rw [fnE_run (by rfl)]
  unfold f__law_draws rowD
  push_cast [retNewR_run (show 4 ≤ lim by decide)]
  rfl
theorem draws_row (ns : List Int) : IsRow ns [] [some (.lst (rowD ns 0 0 7))] := ⟨0, 0, 7, ⟨by decide, by decide, by decide, by decide⟩, rfl⟩
theorem row_take {ns : List Int} {rest ω ω' : Om} (h : IsRow ns rest ω) (h' : IsRow ns rest ω') : List.take (List.length ω) ω' = ω' := by
  obtain ⟨_, _, _, _, rfl⟩ := h
  obtain ⟨_, _, _, _, rfl⟩ := h'
  simp
theorem itR1_run {j : Int} (h : 0 ≤ j) (h' : j < 1000000) : itR1 (.int j) = some (rngD 0 j) := by
  unfold itR1
  exact if_pos (by show -4611686018427387904 ≤ j ∧ j < 4611686018427387904; constructor <;> omega)
theorem rngD_len (lo hi : Int) : (rngD lo hi).length = (hi - lo).toNat := by simp [rngD]
theorem rngD_get {lo hi : Int} {i : Nat} {d : D} (h : (rngD lo hi)[i]? = some d) : d = .int (lo + i) ∧ lo + i < hi := by
  unfold rngD at h
  rw [List.getElem?_map] at h
  by_cases hi' : i < (hi - lo).toNat
  · rw [List.getElem?_range hi'] at h
    cases h
    exact ⟨rfl, by omega⟩
  · rw [List.getElem?_eq_none (by simpa using hi')] at h
    cases h
structure Socks (s : List Int) : Prop where
  ne : s ≠ []
  asc : s.Pairwise (· < ·)
  rg : ∀ x ∈ s, 0 ≤ x ∧ x ≤ 300
structure SockInv (i : Nat) (s : List Int) (here : Int) : Prop where
  h0 : 0 ≤ here
  first : i = 0 → here ≤ 300
  ne : i ≠ 0 → s ≠ []
  asc : s.Pairwise (· < ·)
  rg : ∀ x ∈ s, 0 ≤ x ∧ x ≤ 300 ∧ x < here
  len : s.length ≤ i
theorem SockInv.add {i : Nat} {s : List Int} {here k : Int} (h : SockInv i s here) (hk : 0 < k) (hl : here ≤ 300) : SockInv (i + 1) (s ++ [here]) (here + k) := by
  refine ⟨by have := h.h0; omega, by omega, by simp, ?_, fun x hx => ?_, by simp; have := h.len; omega⟩
  · rw [List.pairwise_append]
    exact ⟨h.asc, by simp, fun a ha b hb => by simp at hb; subst hb; exact (h.rg a ha).2.2⟩
  · rcases List.mem_append.mp hx with hx | hx
    · have := h.rg x hx; omega
    · simp at hx; subst hx; have := h.h0; omega
theorem SockInv.skip {i : Nat} {s : List Int} {here k : Int} (h : SockInv i s here) (hk : 0 < k) (hl : ¬ here ≤ 300) : SockInv (i + 1) s (here + k) := by
  have hi : i ≠ 0 := fun z => hl (h.first z)
  exact ⟨by have := h.h0; omega, by omega, fun _ => h.ne hi, h.asc, fun x hx => by have := h.rg x hx; omega, by have := h.len; omega⟩
theorem atI_three {x y z : D} {r : Int} (h0 : 0 ≤ r) (h : r < 3) : ∃ d, atI [x, y, z] r = some d ∧ (d = x ∨ d = y ∨ d = z) := by
  have : r = 0 ∨ r = 1 ∨ r = 2 := by omega
  rcases this with rfl | rfl | rfl
  · exact ⟨x, rfl, .inl rfl⟩
  · exact ⟨y, rfl, .inr (.inl rfl)⟩
  · exact ⟨z, rfl, .inr (.inr rfl)⟩
theorem sockets {ns : List Int} {rest ω : Om} {most : Int} (h : IsRow ns rest ω) (hm : 0 < most) (hm' : most ≤ 1000) : ∃ socks ω', IsRow ns rest ω' ∧ Socks socks ∧ (socks.length : Int) ≤ most ∧
    F__law_sockets [.own 0, .val (.int most)] ω = .ok (.val (.tup (socks.map D.int))) ω' := by
  obtain ⟨r1, ω1, w1, a1, b1, e1⟩ := pick (m := 20) h (by decide) (by decide)
  obtain ⟨r2, ω2, w2, a2, b2, e2⟩ := pick (m := most) w1 hm (by omega)
  unfold F__law_sockets
  rw [fnE_run (by rfl)]
  unfold f__law_sockets
  push_cast [e1, e2, tupR_run (show 0 ≤ lim by decide), itR1_run (show 0 ≤ 1 + r2 by omega) (by omega)]
  generalize hb : sSeq _ _ = body
  obtain ⟨ρ', ω', e, hi, x2, socks, here, rfl, w, S⟩ := forL_all (tg := gN 2) (b := body) (ds := rngD 0 (1 + r2)) (ω := ω2) (ρ := [some (SV.own 0), some (SV.val (D.int most)), none, some (SV.val (D.tup [])), some (SV.val (D.int r1))])
    (fun i ρ ω => i ≤ (1 + r2).toNat ∧ ∃ x2 socks here, ρ = [some (SV.own 0), some (SV.val (D.int most)), x2, some (SV.val (D.tup (socks.map D.int))), some (SV.val (D.int here))] ∧ IsRow ns rest ω ∧ SockInv i socks here)
    ⟨by omega, none, [], r1, rfl, w2, ⟨a1, by omega, by omega, List.Pairwise.nil, by simp, by simp⟩⟩ (by
    rintro i d ρ ω' hd ⟨hi, x2, socks, here, rfl, w, S⟩
    obtain ⟨rfl, hlt⟩ := rngD_get hd
    obtain ⟨r3, ω3, w3, a3, b3, e3⟩ := pick (m := 40) w (by decide) (by decide)
    obtain ⟨r4, ω4, w4, a4, b4, e4⟩ := pick (m := 3) w3 (by decide) (by decide)
    obtain ⟨d, e5, hd5⟩ := atI_three (x := .int 30) (y := .int (1 + r3)) (z := .int 20) a4 b4
    obtain ⟨k, rfl, hk⟩ : ∃ k : Int, d = .int k ∧ 0 < k := by
      rcases hd5 with rfl | rfl | rfl
      · exact ⟨_, rfl, by decide⟩
      · exact ⟨_, rfl, by omega⟩
      · exact ⟨_, rfl, by decide⟩
    subst hb
    have hl : socks.length + 1 ≤ lim := by have := S.len; show _ ≤ 16777216; omega
    by_cases h3 : here ≤ 300
    · have h3' : decide (here ≤ 300) = true := decide_eq_true h3
      refine ⟨_, _, ω4, rfl, ?_, by omega, some (SV.val (D.int (0 + i))), socks ++ [here], here + k, rfl, w4, S.add hk h3⟩
      push_cast [h3', tupR_run (show 1 ≤ lim by decide), opAdd_tup (ds := socks.map D.int) (es := [D.int here]) (by simpa using hl), e3, e4, e5, lstR_run (show 3 ≤ lim by decide), List.map_append]
    · have h3' : decide (here ≤ 300) = false := decide_eq_false h3
      refine ⟨_, _, ω4, rfl, ?_, by omega, some (SV.val (D.int (0 + i))), socks, here + k, rfl, w4, S.skip hk h3⟩
      push_cast [h3', e3, e4, e5, lstR_run (show 3 ≤ lim by decide)])
  rw [rngD_len] at S
  refine ⟨socks, ω', w, ⟨S.ne (by omega), S.asc, fun x hx => by have := S.rg x hx; omega⟩, by have := S.len; omega, ?_⟩
  push_cast [e, row_take h w]
abbrev Plug := Int × Int × Bool
abbrev Place := Nat × Bool
abbrev Plan := List (Option Place)
def encP (p : Plug) : D := .tup [.int p.1, .int p.2.1, .bl p.2.2]
def encL (p : Place) : D := .tup [.int p.1, .bl p.2]
def encO : Option Place → D
  | none => .non
  | some p => encL p
structure PlugOk (p : Plug) : Prop where
  l0 : 0 ≤ p.1
  l1 : p.1 ≤ 60
  r0 : 0 ≤ p.2.1
  r1 : p.2.1 ≤ 60
def plugsD (ps : List Plug) : D := .tup (ps.map encP)
def socksD (s : List Int) : D := .tup (s.map D.int)
def stripD (s : List Int) : D := .obj "Strip" [("rows", socksD s)]
def canT (p : Plug) : Bool := p.2.2 && !(p.1 == p.2.1)
def sideL (p : Plug) (t : Bool) : Int := if t then p.2.1 else p.1
def sideR (p : Plug) (t : Bool) : Int := if t then p.1 else p.2.1
def bBeg (s : List Int) (p : Plug) (pl : Place) : Int := s.getD pl.1 0 - sideL p pl.2
def bEnd (s : List Int) (p : Plug) (pl : Place) : Int := s.getD pl.1 0 + sideR p pl.2
def apart (s : List Int) (p : Plug) (a : Place) (q : Plug) (b : Place) : Bool :=
  if a.1 < b.1 then decide (bEnd s p a ≤ bBeg s q b) else decide (bEnd s q b ≤ bBeg s p a)
theorem atI_map {α : Type} (f : α → D) {xs : List α} {i : Nat} {x : α} (h : xs[i]? = some x) : atI (xs.map f) (i : Int) = some (f x) := by
  rw [atI_get' (by omega)]; simp [h]
theorem eight (r : Int) (h0 : 0 ≤ r) (h : r < 8) : ∃ z : Int, atI [D.int 0, D.int 5, D.int 10, D.int 15, D.int 20, D.int 30, D.int 40, D.int 60] r = some (.int z) ∧ 0 ≤ z ∧ z ≤ 60 := by
  have : r = 0 ∨ r = 1 ∨ r = 2 ∨ r = 3 ∨ r = 4 ∨ r = 5 ∨ r = 6 ∨ r = 7 := by omega
  rcases this with rfl | rfl | rfl | rfl | rfl | rfl | rfl | rfl <;> exact ⟨_, rfl, by decide, by decide⟩
theorem plug {ns : List Int} {rest ω : Om} (h : IsRow ns rest ω) : ∃ p ω', IsRow ns rest ω' ∧ PlugOk p ∧ F__law_plug [.own 0] ω = .ok (.val (encP p)) ω' := by
  obtain ⟨r1, ω1, w1, a1, b1, e1⟩ := pick (m := 8) h (by decide) (by decide)
  obtain ⟨r2, ω2, w2, a2, b2, e2⟩ := pick (m := 41) w1 (by decide) (by decide)
  obtain ⟨r3, ω3, w3, a3, b3, e3⟩ := pick (m := 3) w2 (by decide) (by decide)
  obtain ⟨r4, ω4, w4, a4, b4, e4⟩ := pick (m := 2) w3 (by decide) (by decide)
  obtain ⟨z, ez, z0, z1⟩ := eight r1 a1 b1
  obtain ⟨d, ed, hd⟩ := atI_three (x := .int r2) (y := .int 15) (z := .int z) a3 b3
  obtain ⟨y, rfl, y0, y1⟩ : ∃ y : Int, d = .int y ∧ 0 ≤ y ∧ y ≤ 60 := by
    rcases hd with rfl | rfl | rfl
    · exact ⟨_, rfl, by omega, by omega⟩
    · exact ⟨_, rfl, by decide, by decide⟩
    · exact ⟨_, rfl, z0, z1⟩
  refine ⟨(z, y, r4 == 0), ω4, w4, ⟨z0, z1, y0, y1⟩, ?_⟩
  unfold F__law_plug
  rw [fnE_run (by rfl)]
  unfold f__law_plug
  push_cast [e1, e2, e3, e4, ez, ed, lstR_run (show 8 ≤ lim by decide), lstR_run (show 3 ≤ lim by decide), tupR_run (show 3 ≤ lim by decide), row_take h w4]
  rfl
theorem lcL_draw {tg : FG} {tt : FE Bool} {el : FE D} {ρ : Rho} (I : Om → Prop) (Q : D → Prop) : ∀ (ds acc : List D) (ω : Om), I ω → acc.length + ds.length ≤ lim →
    (∀ d ∈ ds, ∀ ω, I ω → ∃ ρ1 y ω', tg d ρ = some ρ1 ∧ tt ρ1 ω = .ok true ω ∧ el ρ1 ω = .ok y ω' ∧ I ω' ∧ Q y) → ∃ ys ω', lcL tg tt el ρ ds acc ω = .ok (.lst (acc ++ ys)) ω' ∧ I ω' ∧ ys.length = ds.length ∧ ∀ y ∈ ys, Q y
  | [], acc, ω, hI, _, _ => ⟨[], ω, by unfold lcL; simp, hI, rfl, by simp⟩
  | d :: ds, acc, ω, hI, hl, h => by
    obtain ⟨ρ1, y, ω1, h1, h2, h3, h4, h5⟩ := h d List.mem_cons_self ω hI
    rw [List.length_cons] at hl
    obtain ⟨ys, ω2, g1, g2, g3, g4⟩ := lcL_draw I Q ds (acc ++ [y]) ω1 h4 (by simp; omega) fun d' hd' => h d' (List.mem_cons_of_mem _ hd')
    refine ⟨y :: ys, ω2, ?_, g2, by simp [g3], fun z hz => ?_⟩
    · unfold lcL
      rw [h1]
      dsimp only
      rw [h2]
      dsimp only
      rw [h3]
      dsimp only
      rw [if_pos (by omega), g1]
      simp
    · rcases List.mem_cons.mp hz with rfl | hz
      · exact h5
      · exact g4 z hz
theorem enc_list {α : Type} (f : α → D) (P : α → Prop) : ∀ ys : List D, (∀ y ∈ ys, ∃ p, y = f p ∧ P p) → ∃ ps : List α, ys = ps.map f ∧ ∀ p ∈ ps, P p
  | [], _ => ⟨[], rfl, by simp⟩
  | y :: ys, h => by
    obtain ⟨p, rfl, hp⟩ := h y List.mem_cons_self
    obtain ⟨ps, rfl, hps⟩ := enc_list f P ys fun z hz => h z (List.mem_cons_of_mem _ hz)
    exact ⟨p :: ps, rfl, fun q hq => by
      rcases List.mem_cons.mp hq with rfl | hq
      · exact hp
      · exact hps q hq⟩
theorem plugs {ns : List Int} {rest ω : Om} {most : Int} (h : IsRow ns rest ω) (hm : 0 < most) (hm' : most ≤ 1000) : ∃ ps ω', IsRow ns rest ω' ∧ (∀ p ∈ ps, PlugOk p) ∧ ps ≠ [] ∧ (ps.length : Int) ≤ most ∧
    F__law_plugs [.own 0, .val (.int most)] ω = .ok (.val (plugsD ps)) ω' := by
  obtain ⟨r, ω1, w1, a1, b1, e1⟩ := pick (m := most) h hm (by omega)
  obtain ⟨ys, ω2, e2, w2, hl, hy⟩ := lcL_draw (tg := gN 2) (tt := eTrue) (el := eVal (eCallE F__law_plug (aCons (eSlot 0) aNil))) (ρ := [some (SV.own 0), some (SV.val (D.int most)), none]) (IsRow ns rest) (fun y => ∃ p, y = encP p ∧ PlugOk p)
    (rngD 0 (1 + r)) [] ω1 w1 (by rw [rngD_len]; simp only [List.length_nil]; show _ ≤ 16777216; omega) (fun d _ ω w => by
      obtain ⟨p, ω', w', hp, e⟩ := plug w
      refine ⟨_, encP p, ω', rfl, rfl, ?_, w', p, rfl, hp⟩
      push_cast [e])
  obtain ⟨ps, rfl, hps⟩ := enc_list encP PlugOk ys hy
  rw [List.length_map, rngD_len] at hl
  refine ⟨ps, ω2, w2, hps, fun z => ?_, by omega, ?_⟩
  · subst z; simp at hl; omega
  · unfold F__law_plugs
    rw [fnE_run (by rfl)]
    unfold f__law_plugs
    push_cast [e1, itR1_run (show 0 ≤ 1 + r by omega) (by omega), e2, row_take h w2]
    rfl
theorem can_turn_run (p : Plug) : F_can_turn [encP p] = some (.ok (.bl (canT p))) := by
  obtain ⟨l, r, t⟩ := p
  unfold F_can_turn
  rw [fnP_run (by rfl)]
  unfold f_can_turn encP canT
  cases t <;> push_cast [] <;> rfl
theorem law_can_run (p : Plug) : F__law_can [encP p] = some (.ok (.bl (canT p))) := by
  obtain ⟨l, r, t⟩ := p
  unfold F__law_can
  rw [fnP_run (by rfl)]
  unfold f__law_can encP canT
  cases t <;> push_cast [] <;> rfl
theorem is_from_run (v lo hi : Int) : F_is_from [.int v, .int lo, .int hi] = some (.ok (.bl (decide (lo ≤ v ∧ v ≤ hi)))) := by
  unfold F_is_from
  rw [fnP_run (by rfl)]
  unfold f_is_from
  by_cases h1 : lo ≤ v
  · by_cases h2 : v ≤ hi
    · push_cast [decide_eq_true h1, decide_eq_true h2, decide_eq_true (And.intro h1 h2)]
    · push_cast [decide_eq_true h1, decide_eq_false h2, decide_eq_false (fun z : lo ≤ v ∧ v ≤ hi => h2 z.2)]
  · push_cast [decide_eq_false h1, decide_eq_false (fun z : lo ≤ v ∧ v ≤ hi => h1 z.1)]
theorem sides_run (p : Plug) (t : Bool) : F_sides [encP p, .bl t] = some (.ok (.tup [.int (sideL p t), .int (sideR p t)])) := by
  obtain ⟨l, r, u⟩ := p
  unfold F_sides
  rw [fnP_run (by rfl)]
  unfold f_sides encP sideL sideR
  cases t
  · push_cast []
    rfl
  · push_cast [tupR_run (show 2 ≤ lim by decide)]
theorem body_run {s : List Int} {p : Plug} {pl : Place} (h : pl.1 < s.length) : F_body [stripD s, encP p, encL pl] = some (.ok (.tup [.int (bBeg s p pl), .int (bEnd s p pl)])) := by
  obtain ⟨k, t⟩ := pl
  have e : atI (s.map D.int) (k : Int) = some (.int (s.getD k 0)) := atI_map D.int (by simp [List.getD, List.getElem?_eq_getElem h])
  have e2 : fldD "Strip" "rows" (stripD s) = some (socksD s) := by simp [fldD, stripD]
  unfold F_body
  rw [fnP_run (by rfl)]
  unfold f_body encL bBeg bEnd
  push_cast [sides_run, gT_run (show ([D.int (sideL p t), D.int (sideR p t)]).length = 2 by rfl), e2, socksD, e, tupR_run (show 2 ≤ lim by decide)]
theorem asBls_true : ∀ n, asBls (List.replicate n (D.bl true)) = some (List.replicate n true)
  | 0 => rfl
  | n + 1 => by rw [List.replicate_succ, asBls, asBls_true n]; rfl
theorem all_rep (n : Nat) : (List.replicate n true).all id = true := by simp
theorem oAllL_true (n : Nat) : oAllL (List.replicate n (D.bl true)) = some (.bl true) := by
  unfold oAllL
  rw [asBls_true]
  show some (D.bl ((List.replicate n true).all id)) = _
  rw [all_rep]
theorem lcL_true {tg : FG} {el : FE D} {ρ : Rho} {ω : Om} {ds : List D} (hl : ds.length ≤ lim) (h : ∀ d ∈ ds, ∃ ρ1, tg d ρ = some ρ1 ∧ el ρ1 ω = .ok (.bl true) ω) : lcL tg eTrue el ρ ds [] ω = .ok (.lst (List.replicate ds.length (D.bl true))) ω := by
  rw [lcL_pure (fun _ => some (D.bl true)) ds [] (by simpa using hl) (fun d hd => by
    obtain ⟨ρ1, h1, h2⟩ := h d hd
    exact ⟨ρ1, h1, rfl, h2⟩)]
  simp [List.filterMap_eq_map, List.map_const']
theorem is_plug_run {p : Plug} (h : PlugOk p) : F_is_plug [encP p] = some (.ok (.bl true)) := by
  obtain ⟨l, r, t⟩ := p
  have e1 : F_is_from [.int l, .int 0, .int 60] = some (.ok (.bl true)) := by rw [is_from_run, decide_eq_true ⟨h.l0, h.l1⟩]
  have e2 : F_is_from [.int r, .int 0, .int 60] = some (.ok (.bl true)) := by rw [is_from_run, decide_eq_true ⟨h.r0, h.r1⟩]
  have e3 : slD none (some 2) (.tup [.int l, .int r, .bl t]) = some (.tup [.int l, .int r]) := rfl
  have e4 : ((((0 + 1 + 1 + 1 : Nat) : Int)) == 3) = true := rfl
  have e5 : lcL (gN 1) eTrue (eCallP F_is_from (aCons (aVal (eVar 1)) (aCons (aVal (eC (.int 0))) (aCons (aVal (eC (.int 60))) aNil)))) [some (.val (.tup [.int l, .int r, .bl t])), none] [.int l, .int r] [] [] = .ok (.lst [.bl true, .bl true]) [] :=
    lcL_true (ds := [.int l, .int r]) (by show 2 ≤ lim; decide) (fun d hd => by
      refine ⟨_, rfl, ?_⟩
      simp only [List.mem_cons, List.not_mem_nil, or_false] at hd
      rcases hd with rfl | rfl
      · push_cast [e1]
      · push_cast [e2])
  have e6 : oAllL [.bl true, .bl true] = some (.bl true) := rfl
  unfold F_is_plug
  rw [fnP_run (by rfl)]
  unfold f_is_plug encP
  have e7 : ((3 : Nat) : Int) = 3 := rfl
  push_cast [e3, e4, e5, e6, e7, beq_self_eq_true]
theorem fld_rows (s : List Int) : fldD "Strip" "rows" (stripD s) = some (socksD s) := by simp [fldD, stripD]
theorem zip_tail : ∀ (s : List Int), s.Pairwise (· < ·) → ∀ d ∈ zipD (s.map D.int) ((s.map D.int).drop 1), ∃ a b : Int, d = .tup [.int a, .int b] ∧ a < b
  | [], _, d, hd => by simp [zipD] at hd
  | [x], _, d, hd => by simp [zipD] at hd
  | x :: y :: s, h, d, hd => by
    rw [List.pairwise_cons] at h
    have : zipD ((x :: y :: s).map D.int) (((x :: y :: s).map D.int).drop 1) = pairD (.int x) (.int y) :: zipD ((y :: s).map D.int) (((y :: s).map D.int).drop 1) := rfl
    rw [this] at hd
    rcases List.mem_cons.mp hd with rfl | hd
    · exact ⟨x, y, rfl, h.1 y (by simp)⟩
    · exact zip_tail (y :: s) h.2 d hd
theorem cut1 (ds : List D) : slD (some 1) none (.tup ds) = some (.tup (ds.drop 1)) := by
  show some (D.tup (cutD ds (some 1) none)) = some (D.tup (ds.drop 1))
  congr 2
  unfold cutD
  have : HT.sIx ds.length 0 (some 1) = min 1 ds.length := HT.sIx_nat _ _ 1
  rw [this, HT.sIx_none]
  cases ds with
  | nil => rfl
  | cons x xs =>
    have : min 1 (x :: xs).length = 1 := by simp
    rw [this]
    simp
def hereF : Nat → Plan → List Nat
  | _, [] => []
  | k, none :: r => hereF (k + 1) r
  | k, some _ :: r => k :: hereF (k + 1) r
def here (plan : Plan) : List Nat := hereF 0 plan
def nD (i : Nat) : D := .int (i : Int)
def pairsN (plan : Plan) : List (Nat × Nat) := (here plan).flatMap fun a => (here plan).filterMap fun b => if a < b then some (a, b) else none
def turnG (ps : List Plug) (plan : Plan) (i : Nat) : Option D := match plan[i]?, ps[i]? with
  | some (some pl), some p => if pl.2 && !canT p then some (.tup [.str "turn", nD i]) else none
  | _, _ => none
def sockG (plan : Plan) (p : Nat × Nat) : Option D := match plan[p.1]?, plan[p.2]? with
  | some (some x), some (some y) => if x.1 = y.1 then some (.tup [.str "socket", nD p.1, nD p.2]) else none
  | _, _ => none
def overG (s : List Int) (ps : List Plug) (plan : Plan) (p : Nat × Nat) : Option D := match plan[p.1]?, plan[p.2]?, ps[p.1]?, ps[p.2]? with
  | some (some x), some (some y), some a, some b => if apart s a x b y then none else some (.tup [.str "overlap", nD p.1, nD p.2])
  | _, _, _, _ => none
def orD (o : Option D) (d : D) : D := o.getD d
def fault (s : List Int) (ps : List Plug) (plan : Plan) : D :=
  orD ((here plan).findSome? (turnG ps plan)) (orD ((pairsN plan).findSome? (sockG plan)) (orD ((pairsN plan).findSome? (overG s ps plan)) .non))
theorem turn_enum {g1 : D → Option D} {g2 : Nat → Option D} : ∀ (plan : Plan) (k : Nat), (∀ j pl, plan[j]? = some (some pl) → g1 (pairI (k + j) (encO (some pl))) = g2 (k + j)) → (∀ i, g1 (pairI i .non) = none) →
    ((plan.map encO).mapIdx fun i d => pairI (i + k) d).findSome? g1 = (hereF k plan).findSome? g2
  | [], k, _, _ => rfl
  | o :: r, k, h1, h2 => by
    rw [List.map_cons, List.mapIdx_cons, List.findSome?_cons]
    have ih := turn_enum (g1 := g1) (g2 := g2) r (k + 1) (fun j pl e => by
      have := h1 (j + 1) pl (by simpa using e)
      rw [show k + (j + 1) = k + 1 + j by omega] at this
      exact this) h2
    have : (fun (i : Nat) (d : D) => pairI (i + 1 + k) d) = fun i d => pairI (i + (k + 1)) d := by funext i d; congr 1; omega
    rw [this, ih]
    cases o with
    | none =>
      have e : g1 (pairI (0 + k) (encO none)) = none := h2 _
      rw [e]; rfl
    | some q =>
      have e := h1 0 q rfl
      rw [Nat.zero_add]
      rw [Nat.add_zero] at e
      rw [e]
      show _ = List.findSome? g2 (k :: hereF (k + 1) r)
      rw [List.findSome?_cons]
theorem getP {ps : List Plug} {i : Nat} {p : Plug} (h : ps[i]? = some p) : atI (ps.map encP) (i : Int) = some (encP p) := atI_map encP h
theorem law_body_run {s : List Int} {p : Plug} {pl : Place} (h : pl.1 < s.length) : F__law_body [socksD s, encP p, encL pl] = some (.ok (.lst [.int (bBeg s p pl), .int (bEnd s p pl)])) := by
  obtain ⟨k, t⟩ := pl
  obtain ⟨l, r, u⟩ := p
  have e : atI (s.map D.int) (k : Int) = some (.int (s.getD k 0)) := atI_map D.int (by simp [List.getD, List.getElem?_eq_getElem h])
  unfold F__law_body
  rw [fnP_run (by rfl)]
  unfold f__law_body encL encP bBeg bEnd sideL sideR
  cases t
  · push_cast [socksD, e, lstR_run (show 2 ≤ lim by decide)]
  · push_cast [socksD, e, lstR_run (show 2 ≤ lim by decide)]
theorem len_socks (s : List Int) : oLen [socksD s] = some (.int s.length) := by unfold socksD; rw [oLen_tup, List.length_map]
theorem len_plugs (s : List Plug) : oLen [plugsD s] = some (.int s.length) := by unfold plugsD; rw [oLen_tup, List.length_map]
theorem cut_lo (ds : List D) (k : Nat) : slD none (some (k : Int)) (.tup ds) = some (.tup (ds.take k)) := by
  show some (D.tup (cutD ds none (some (k : Int)))) = _
  unfold cutD
  rw [HT.sIx_none, HT.sIx_nat]
  simp only [List.drop_zero, Nat.sub_zero]
  congr 2
  by_cases h : k ≤ ds.length
  · rw [Nat.min_eq_left h]
  · rw [Nat.min_eq_right (by omega), List.take_of_length_le (Nat.le_refl _), List.take_of_length_le (by omega)]
theorem cut_hi (ds : List D) (k : Nat) : slD (some ((k : Int) + 1)) none (.tup ds) = some (.tup (ds.drop (k + 1))) := by
  show some (D.tup (cutD ds (some ((k : Int) + 1)) none)) = _
  unfold cutD
  rw [HT.sIx_none, show ((k : Int) + 1) = ((k + 1 : Nat) : Int) by omega, HT.sIx_nat]
  congr 2
  by_cases h : k + 1 ≤ ds.length
  · rw [Nat.min_eq_left h, List.take_of_length_le (by simp)]
  · rw [Nat.min_eq_right (by omega), List.drop_of_length_le (Nat.le_refl _), List.drop_of_length_le (show ds.length ≤ k + 1 by omega)]; simp
theorem asBls_map {α : Type} (f : α → Bool) : ∀ l : List α, asBls (l.map fun a => D.bl (f a)) = some (l.map f)
  | [] => rfl
  | a :: l => by
    show (asBls (l.map fun a => D.bl (f a))).map (f a :: ·) = _
    rw [asBls_map f l]; rfl
theorem any_map {α : Type} (f : α → Bool) (l : List α) : oAnyL (l.map fun a => D.bl (f a)) = some (.bl (l.any f)) := by
  unfold oAnyL
  rw [asBls_map]
  show some (D.bl ((l.map f).any id)) = _
  rw [List.any_map]; rfl
theorem all_map {α : Type} (f : α → Bool) (l : List α) : oAllL (l.map fun a => D.bl (f a)) = some (.bl (l.all f)) := by
  unfold oAllL
  rw [asBls_map]
  show some (D.bl ((l.map f).all id)) = _
  rw [List.all_map]; rfl
theorem cf : eqD (.str "covered") (.str "free") = some false := by rw [eqD_str (by decide +kernel) (by decide +kernel)]; decide +kernel
def placesN (n : Nat) (p : Plug) : List Place := (List.range n).flatMap fun i => if canT p then [(i, false), (i, true)] else [(i, false)]
def standsD (p : Plug) : List D := if canT p then [.bl false, .bl true] else [.bl false]
theorem stands_run (p : Plug) : F_stands_of [encP p] = some (.ok (.lst (standsD p))) := by
  unfold F_stands_of
  rw [fnP_run (by rfl)]
  unfold f_stands_of standsD
  cases h : canT p
  · push_cast [can_turn_run, h, lstR_run (show 1 ≤ lim by decide)]
  · push_cast [can_turn_run, h, lstR_run (show 2 ≤ lim by decide)]
theorem rng_nD (n : Nat) : rngD 0 (n : Int) = (List.range n).map nD := by
  unfold rngD nD
  rw [show ((n : Int) - 0).toNat = n by omega]
  congr 1
  funext i
  simp
abbrev M64 : Nat := 18446744073709551616
abbrev P1 : Nat := 11400714785074694791
abbrev P2 : Nat := 14029467366897019727
abbrev P5 : Nat := 2870177450012600261
abbrev Q1 : Nat := 614540362697595703
abbrev Q2 : Nat := 839798700976720815
abbrev C2 : Nat := 2870177450013471924
theorem mul_inv {P Q m : Nat} (h : P * Q % m = 1 % m) (a : Nat) : a * P * Q % m = a % m := by
  rw [Nat.mul_assoc, Nat.mul_mod, h, ← Nat.mul_mod, Nat.mul_one]
theorem mul_inj {P Q m a b : Nat} (h : P * Q % m = 1 % m) (e : a * P % m = b * P % m) : a % m = b % m := by
  have h1 := mul_inv h a
  have h2 := mul_inv h b
  rw [Nat.mul_mod, e, ← Nat.mul_mod, h2] at h1
  exact h1.symm
def rot (z : Nat) : Nat := (z * 2 ^ 31) % M64 + z / 2 ^ 33
theorem rot_eq {z : Nat} (h : z < M64) : rot z = (z % 8589934592) * 2147483648 + z / 8589934592 := by
  unfold rot
  have e : (z * 2 ^ 31) % M64 = (z % 8589934592) * 2147483648 := by
    have h1 : z = 8589934592 * (z / 8589934592) + z % 8589934592 := (Nat.div_add_mod z _).symm
    have h2 : z % 8589934592 < 8589934592 := Nat.mod_lt _ (by decide)
    have h3 : z * 2 ^ 31 = M64 * (z / 8589934592) + (z % 8589934592) * 2147483648 := by
      show z * 2147483648 = 18446744073709551616 * (z / 8589934592) + (z % 8589934592) * 2147483648
      omega
    rw [h3, Nat.mul_add_mod]
    exact Nat.mod_eq_of_lt (by show _ < 18446744073709551616; omega)
  rw [e]
theorem rot_lt {z : Nat} (h : z < M64) : rot z < M64 := by
  rw [rot_eq h]
  have h2 : z % 8589934592 < 8589934592 := Nat.mod_lt _ (by decide)
  have h3 : z / 8589934592 < 2147483648 := by
    have : z < 18446744073709551616 := h
    omega
  show _ < 18446744073709551616
  omega
theorem rot_inj {z y : Nat} (hz : z < M64) (hy : y < M64) (e : rot z = rot y) : z = y := by
  rw [rot_eq hz, rot_eq hy] at e
  have h2 : z % 8589934592 < 8589934592 := Nat.mod_lt _ (by decide)
  have h3 : y % 8589934592 < 8589934592 := Nat.mod_lt _ (by decide)
  have h4 : z / 8589934592 < 2147483648 := by have : z < 18446744073709551616 := hz; omega
  have h5 : y / 8589934592 < 2147483648 := by have : y < 18446744073709551616 := hy; omega
  omega
def hx (h : Int) : Nat := (h % (M64 : Int)).toNat
def hstep (acc : Nat) (h : Int) : Nat := rot ((acc + hx h * P2) % M64) * P1 % M64
def EndOk (e : Int) : Prop := e = -1000 ∨ (0 ≤ e ∧ e ≤ 400)
def fin2 (acc : Nat) : Int := if acc == M64 - 1 then 1546275796 else if acc < 2 ^ 63 then (acc : Int) else (acc : Int) - M64
theorem xor2 : 2 ^^^ (2870177450012600261 ^^^ 3527539) = C2 := by decide +kernel
theorem two64 : (2 : Nat) ^ 64 = M64 := by decide
theorem hashOf2 (a b : Int) : Builtin.Tuple.tupleHashOf [a, b] = fin2 ((hstep (hstep P5 a) b + C2) % M64) := by
  unfold Builtin.Tuple.tupleHashOf fin2 hstep rot hx
  simp -implicitDefEqProofs only [List.foldl_cons, List.foldl_nil, two64, List.length_cons, List.length_nil, Nat.reduceAdd, xor2]
theorem pq1 : P1 * Q1 % M64 = 1 % M64 := by decide
theorem pq2 : P2 * Q2 % M64 = 1 % M64 := by decide
theorem hstep_lt (A : Nat) (h : Int) : hstep A h < M64 := Nat.mod_lt _ (by decide)
theorem hstep_eq {A A' : Nat} {h h' : Int} (e : hstep A h = hstep A' h') : (A + hx h * P2) % M64 = (A' + hx h' * P2) % M64 := by
  unfold hstep at e
  have l1 : (A + hx h * P2) % M64 < M64 := Nat.mod_lt _ (by decide)
  have l2 : (A' + hx h' * P2) % M64 < M64 := Nat.mod_lt _ (by decide)
  have e2 := mul_inj pq1 e
  rw [Nat.mod_eq_of_lt (rot_lt l1), Nat.mod_eq_of_lt (rot_lt l2)] at e2
  exact rot_inj l1 l2 e2
theorem mul_q2 (A y : Nat) : (A + y * P2) % M64 * Q2 % M64 = (A * Q2 % M64 + y % M64) % M64 := by
  rw [Nat.mul_mod, Nat.mod_mod, ← Nat.mul_mod, Nat.add_mul, Nat.add_mod, mul_inv pq2]
def hb (t : NestedKey) : Nat := hstep P5 (hashN t) * Q2 % M64
def far (b c : Nat) : Bool := decide (2000 < (b + M64 - c) % M64) && decide (2000 < (c + M64 - b) % M64)
def alone (b : Nat) : Bool := decide (400 < (15746002411462551884 + M64 - b) % M64) && decide ((15746002411462551884 + M64 - b) % M64 ≠ 18446744073709550616)
def checkT : List Nat → Bool
  | [] => true
  | b :: r => alone b && r.all (far b) && checkT r
theorem hb_lt (t : NestedKey) : hb t < M64 := Nat.mod_lt _ (by decide)
theorem rawHash_end {e : Int} (h : EndOk e) : hashInt e = e := by
  unfold hashInt rawHash
  rcases h with rfl | h
  · decide
  · have h1 : ¬ e < 0 := by omega
    have h2 : ((e.natAbs % (2 ^ 61 - 1 : Nat) : Nat) : Int) = e := by
      rw [Nat.mod_eq_of_lt (by show _ < 2305843009213693951; omega)]; omega
    simp only [if_neg h1]
    rw [show ((e.natAbs : Int) % ((2 ^ 61 - 1 : Nat) : Int)) = e from by rw [← Int.natCast_emod]; exact h2]
    have h3 : (e == -1) = false := by rw [beq_eq_false_iff_ne]; omega
    rw [h3]
    simp [h3]
def yOk (y : Nat) : Prop := y ≤ 400 ∨ y = 18446744073709550616
theorem hx_end {e : Int} (h : EndOk e) : yOk (hx e) := by
  unfold hx
  rcases h with rfl | h
  · exact .inr (by decide)
  · refine .inl ?_
    have : e % (M64 : Int) = e := Int.emod_eq_of_lt h.1 (by show _ < (18446744073709551616 : Int); omega)
    rw [this]; omega
theorem hx_inj {e f : Int} (he : EndOk e) (hf : EndOk f) (h : hx e = hx f) : e = f := by
  unfold hx at h
  have g : ∀ x : Int, EndOk x → x = -1000 ∧ (x % (M64 : Int)).toNat = 18446744073709550616 ∨ (0 ≤ x ∧ x ≤ 400 ∧ (x % (M64 : Int)).toNat = x.toNat) := fun x hx => by
    rcases hx with rfl | hx
    · exact .inl ⟨rfl, by decide⟩
    · refine .inr ⟨hx.1, hx.2, ?_⟩
      rw [Int.emod_eq_of_lt hx.1 (by show _ < (18446744073709551616 : Int); omega)]
  rcases g e he with ⟨a1, a2⟩ | ⟨a1, a2, a3⟩ <;> rcases g f hf with ⟨b1, b2⟩ | ⟨b1, b2, b3⟩ <;> omega
theorem acc_alone {t : NestedKey} {e : Int} (ha : alone (hb t) = true) (he : EndOk e) : (hstep (hstep P5 (hashN t)) e + C2) % M64 ≠ M64 - 1 := by
  intro h
  have l := hstep_lt (hstep P5 (hashN t)) e
  have k0 : hstep (hstep P5 (hashN t)) e = 15576566623696079691 := by
    have : hstep (hstep P5 (hashN t)) e < 18446744073709551616 := l
    have h' : (hstep (hstep P5 (hashN t)) e + 2870177450013471924) % 18446744073709551616 = 18446744073709551615 := h
    omega
  unfold hstep at k0
  generalize hz : (rot ((P5 + hx (hashN t) * P2) % M64) * P1 % M64 + hx e * P2) % M64 = z at k0
  have lz : z < M64 := by rw [← hz]; exact Nat.mod_lt _ (by decide)
  have r0 : rot z = 5422089010434233885 := by
    have e1 := mul_inv pq1 (rot z)
    rw [Nat.mul_mod, k0, Nat.mod_eq_of_lt (rot_lt lz)] at e1
    rw [← e1]; decide
  have z0 : z = 9148689060682678900 := rot_inj lz (by decide) (by rw [r0]; decide)
  have w := mul_q2 (hstep P5 (hashN t)) (hx e)
  have hz' : (hstep P5 (hashN t) + hx e * P2) % M64 = z := hz
  rw [hz', z0] at w
  have w' : (9148689060682678900 * Q2) % M64 = 15746002411462551884 := by decide
  rw [w'] at w
  unfold alone at ha
  obtain ⟨h1, h2⟩ := Bool.and_eq_true_iff.mp ha
  have h1 := of_decide_eq_true h1
  have h2 := of_decide_eq_true h2
  have lb : hb t < 18446744073709551616 := hb_lt t
  have yo := hx_end he
  have w2 : 15746002411462551884 = (hb t + hx e % 18446744073709551616) % 18446744073709551616 := w
  have h1' : 400 < (15746002411462551884 + 18446744073709551616 - hb t) % 18446744073709551616 := h1
  have h2' : (15746002411462551884 + 18446744073709551616 - hb t) % 18446744073709551616 ≠ 18446744073709550616 := h2
  rcases yo with yo | yo
  · omega
  · omega
theorem fin2_inj {a b : Nat} (la : a < M64) (lb : b < M64) (na : a ≠ M64 - 1) (nb : b ≠ M64 - 1) (h : fin2 a = fin2 b) : a = b := by
  unfold fin2 at h
  have na' : (a == M64 - 1) = false := by rw [beq_eq_false_iff_ne]; exact na
  have nb' : (b == M64 - 1) = false := by rw [beq_eq_false_iff_ne]; exact nb
  rw [na', nb'] at h
  have la' : a < 18446744073709551616 := la
  have lb' : b < 18446744073709551616 := lb
  simp only [Bool.false_eq_true, if_false] at h
  split at h <;> split at h
  · omega
  · have : (a : Int) = (b : Int) - 18446744073709551616 := h
    omega
  · have : (a : Int) - 18446744073709551616 = (b : Int) := h
    omega
  · omega
theorem fin2_red {a : Nat} (la : a < M64) (na : a ≠ M64 - 1) : reduceHash (fin2 a) = fin2 a := by
  have na' : (a == M64 - 1) = false := by rw [beq_eq_false_iff_ne]; exact na
  have la' : a < 18446744073709551616 := la
  have na2 : a ≠ 18446744073709551615 := na
  have f : -9223372036854775808 ≤ fin2 a ∧ fin2 a < 9223372036854775808 ∧ fin2 a ≠ -1 := by
    unfold fin2
    rw [na']
    simp only [Bool.false_eq_true, if_false]
    split
    · rename_i h
      have h' : a < 9223372036854775808 := h
      omega
    · rename_i h
      have h' : ¬ a < 9223372036854775808 := h
      show _ ∧ _ ∧ _
      refine ⟨?_, ?_, ?_⟩ <;> first | (show -9223372036854775808 ≤ (a : Int) - 18446744073709551616; omega) | (show (a : Int) - 18446744073709551616 < _; omega) | (show (a : Int) - 18446744073709551616 ≠ -1; omega)
  unfold reduceHash
  rw [if_pos (by
    rw [Bool.and_eq_true, decide_eq_true_eq, decide_eq_true_eq]
    exact ⟨f.1, f.2.1⟩), if_neg (by rw [beq_iff_eq]; exact f.2.2)]
theorem checkT_far : ∀ {l : List Nat}, checkT l = true → (∀ b ∈ l, alone b = true) ∧ l.Pairwise fun b c => far b c = true
  | [], _ => ⟨fun b hb => (by cases hb), List.Pairwise.nil⟩
  | b :: r, h => by
    unfold checkT at h
    obtain ⟨h1, h2⟩ := Bool.and_eq_true_iff.mp h
    obtain ⟨h1, h3⟩ := Bool.and_eq_true_iff.mp h1
    obtain ⟨i1, i2⟩ := checkT_far h2
    refine ⟨fun c hc => ?_, List.pairwise_cons.mpr ⟨fun c hc => List.all_eq_true.mp h3 c hc, i2⟩⟩
    rcases List.mem_cons.mp hc with rfl | hc
    · exact h1
    · exact i1 c hc
theorem far_ne {b c x y : Nat} (hf : far b c = true) (lb : b < M64) (lc : c < M64) (hx : yOk x) (hy : yOk y) : (b + x % M64) % M64 ≠ (c + y % M64) % M64 := by
  unfold far at hf
  obtain ⟨h1, h2⟩ := Bool.and_eq_true_iff.mp hf
  have h1 : 2000 < (b + 18446744073709551616 - c) % 18446744073709551616 := of_decide_eq_true h1
  have h2 : 2000 < (c + 18446744073709551616 - b) % 18446744073709551616 := of_decide_eq_true h2
  have lb' : b < 18446744073709551616 := lb
  have lc' : c < 18446744073709551616 := lc
  intro e
  have e' : (b + x % 18446744073709551616) % 18446744073709551616 = (c + y % 18446744073709551616) % 18446744073709551616 := e
  rcases hx with hx | hx <;> rcases hy with hy | hy <;> omega
theorem pw_mem {α : Type} {R : α → α → Prop} {l : List α} (h : l.Pairwise R) {a b : α} (ha : a ∈ l) (hb : b ∈ l) : a = b ∨ R a b ∨ R b a := by
  induction h with
  | nil => cases ha
  | cons h1 _ ih =>
    rcases List.mem_cons.mp ha with ea | ha' <;> rcases List.mem_cons.mp hb with eb | hb'
    · exact .inl (ea.trans eb.symm)
    · exact .inr (.inl (by rw [ea]; exact h1 _ hb'))
    · exact .inr (.inr (by rw [eb]; exact h1 _ ha'))
    · exact ih ha' hb'
theorem key_inj {T : List NestedKey} (hT : checkT (T.map hb) = true) {t u : NestedKey} (ht : t ∈ T) (hu : u ∈ T) {e f : Int} (he : EndOk e) (hf : EndOk f) (h : hashN (.tup [t, .num e]) = hashN (.tup [u, .num f])) : hb t = hb u ∧ e = f := by
  obtain ⟨al, pw⟩ := checkT_far hT
  have a1 := acc_alone (al _ (List.mem_map_of_mem ht)) he
  have a2 := acc_alone (al _ (List.mem_map_of_mem hu)) hf
  have e1 : ∀ (t : NestedKey) (e : Int), EndOk e → hashN (.tup [t, .num e]) = reduceHash (fin2 ((hstep (hstep P5 (hashN t)) e + C2) % M64)) := fun t e he => by
    rw [show hashN (.tup [t, .num e]) = reduceHash (Builtin.Tuple.tupleHashOf [hashN t, hashInt e]) from by
      conv => lhs; unfold hashN
      rw [show hashNs [t, .num e] = [hashN t, hashInt e] from by simp [hashNs, hashN]], hashOf2, rawHash_end he]
  have l1 : (hstep (hstep P5 (hashN t)) e + C2) % M64 < M64 := Nat.mod_lt _ (by decide)
  have l2 : (hstep (hstep P5 (hashN u)) f + C2) % M64 < M64 := Nat.mod_lt _ (by decide)
  rw [e1 t e he, e1 u f hf, fin2_red l1 a1, fin2_red l2 a2] at h
  have h2 := fin2_inj l1 l2 a1 a2 h
  have k1 : hstep (hstep P5 (hashN t)) e < 18446744073709551616 := hstep_lt _ _
  have k2 : hstep (hstep P5 (hashN u)) f < 18446744073709551616 := hstep_lt _ _
  have h3 : hstep (hstep P5 (hashN t)) e = hstep (hstep P5 (hashN u)) f := by
    have h2' : (hstep (hstep P5 (hashN t)) e + 2870177450013471924) % 18446744073709551616 = (hstep (hstep P5 (hashN u)) f + 2870177450013471924) % 18446744073709551616 := h2
    omega
  have h4 := hstep_eq h3
  have m1 := mul_q2 (hstep P5 (hashN t)) (hx e)
  have m2 := mul_q2 (hstep P5 (hashN u)) (hx f)
  rw [h4, m2] at m1
  have m3 : (hb t + hx e % M64) % M64 = (hb u + hx f % M64) % M64 := m1.symm
  have key : hb t = hb u := by
    rcases pw_mem pw (List.mem_map_of_mem ht) (List.mem_map_of_mem hu) with z | z | z
    · exact z
    · exact absurd m3 (far_ne z (hb_lt t) (hb_lt u) (hx_end he) (hx_end hf))
    · exact absurd m3.symm (far_ne z (hb_lt u) (hb_lt t) (hx_end hf) (hx_end he))
  refine ⟨key, hx_inj he hf ?_⟩
  rw [key] at m3
  have lu : hb u < 18446744073709551616 := hb_lt u
  have m4 : (hb u + hx e % 18446744073709551616) % 18446744073709551616 = (hb u + hx f % 18446744073709551616) % 18446744073709551616 := m3
  have y1 := hx_end he
  have y2 := hx_end hf
  rcases y1 with y1 | y1 <;> rcases y2 with y2 | y2 <;> omega
theorem key_eq {T : List NestedKey} (hT : checkT (T.map hb) = true) {t u : NestedKey} (ht : t ∈ T) (hu : u ∈ T) {e f : Int} (he : EndOk e) (hf : EndOk f) (h : hashN (.tup [t, .num e]) = hashN (.tup [u, .num f])) : t = u ∧ e = f := by
  obtain ⟨h1, h2⟩ := key_inj hT ht hu he hf h
  refine ⟨?_, h2⟩
  have pw := List.pairwise_map.mp (checkT_far hT).2
  have no : ∀ b, far b b = true → b < M64 → False := fun b hb lb => by
    unfold far at hb
    have h1 : 2000 < (b + 18446744073709551616 - b) % 18446744073709551616 := of_decide_eq_true (Bool.and_eq_true_iff.mp hb).1
    have lb' : b < 18446744073709551616 := lb
    omega
  rcases pw_mem pw ht hu with z | z | z
  · exact z
  · rw [h1] at z; exact (no _ z (hb_lt u)).elim
  · rw [h1] at z; exact (no _ z (hb_lt u)).elim
def subs : Nat → List (List Nat)
  | 0 => [[]]
  | n + 1 => subs n ++ (subs n).map (· ++ [n])
def nkL (l : List Nat) : NestedKey := .tup (l.map fun (i : Nat) => .num (i : Int))
theorem check6 : checkT ((subs 6).map nkL |>.map hb) = true := by decide +kernel
abbrev LK := List Nat × Int
abbrev Lay := List (LK × Int)
def keyD (k : LK) : D := .tup [.tup (k.1.map nD), .int k.2]
def itD (p : LK × Int) : D × D := (keyD p.1, .int p.2)
def layD (L : Lay) : KVs := L.map itD
theorem nks_nD : ∀ l : List Nat, nk.nks (l.map nD) = l.map fun (i : Nat) => NestedKey.num (i : Int)
  | [] => rfl
  | a :: l => by rw [List.map_cons, nk.nks, nks_nD l, List.map_cons]; rfl
theorem nk_key (k : LK) : nk (keyD k) = .tup [nkL k.1, .num k.2] := by
  unfold keyD nkL
  rw [nk, nk.nks, nk.nks, nk.nks, nk, nk, nks_nD]
theorem nkL_inj {a b : List Nat} (h : nkL a = nkL b) : a = b := by
  unfold nkL at h
  injection h with h
  exact (List.map_inj_right fun x y e => by injection e with e; omega).mp h
theorem nk_inj {k k' : LK} : nk (keyD k) = nk (keyD k') ↔ k = k' := by
  constructor
  · intro h
    rw [nk_key, nk_key] at h
    injection h with h
    injection h with h1 h2
    injection h2 with h2 h3
    injection h2 with h2
    exact Prod.ext (nkL_inj h1) h2
  · intro h; rw [h]
theorem isKey_key (k : LK) : isKey (keyD k) = true := by
  have : ∀ l : List Nat, keyOk.keyOks 6 (l.map nD) = true := fun l => by
    induction l with
    | nil => rfl
    | cons a l ih => rw [List.map_cons, keyOk.keyOks, ih]; rfl
  show keyOk.keyOks 7 [.tup (k.1.map nD), .int k.2] = true
  unfold keyOk.keyOks
  rw [show keyOk 7 (.tup (k.1.map nD)) = true from this k.1]
  rfl
def fnd (L : Lay) (k : LK) : Option Int := (L.find? fun p => decide (p.1 = k)).map (·.2)
def putL (L : Lay) (k : LK) (v : Int) : Lay := if (fnd L k).isSome = true then L.map (fun p => if p.1 = k then (p.1, v) else p) else L ++ [(k, v)]
def addL (L : Lay) (k : LK) (m : Int) : Lay := putL L k ((fnd L k).getD 0 + m)
theorem fnd_mem {L : Lay} {k : LK} : (fnd L k).isSome = true ↔ k ∈ L.map (·.1) := by
  unfold fnd
  rw [Option.isSome_map, List.find?_isSome, List.mem_map]
  constructor
  · rintro ⟨p, h1, h2⟩; exact ⟨p, h1, of_decide_eq_true h2⟩
  · rintro ⟨p, h1, h2⟩; exact ⟨p, h1, decide_eq_true h2⟩
theorem keys_put {L : Lay} {k : LK} {v : Int} : (putL L k v).map (·.1) = if k ∈ L.map (·.1) then L.map (·.1) else L.map (·.1) ++ [k] := by
  unfold putL
  by_cases h : (fnd L k).isSome = true
  · rw [if_pos h, if_pos (fnd_mem.mp h), List.map_map]
    apply List.map_congr_left
    intro p _
    dsimp only [Function.comp]
    split <;> rfl
  · rw [if_neg h, if_neg fun z => h (fnd_mem.mpr z), List.map_append]; rfl
theorem put_nodup {L : Lay} {k : LK} {v : Int} (h : (L.map (·.1)).Nodup) : ((putL L k v).map (·.1)).Nodup := by
  rw [keys_put]
  split
  · exact h
  · rename_i hn
    exact List.nodup_append.mpr ⟨h, List.nodup_cons.mpr ⟨List.not_mem_nil, List.nodup_nil⟩, fun a ha b hb e => by
      rw [List.mem_singleton] at hb; subst hb; exact hn (e ▸ ha)⟩
theorem put_keys {L : Lay} {k k' : LK} {v : Int} (h : k' ∈ (putL L k v).map (·.1)) : k' = k ∨ k' ∈ L.map (·.1) := by
  rw [keys_put] at h
  split at h
  · exact .inr h
  · rcases List.mem_append.mp h with h | h
    · exact .inr h
    · exact .inl (List.mem_singleton.mp h)
def tot (L : Lay) (φ : LK → Int) : Int := (L.map fun p => p.2 * φ p.1).sum
def ins (h : List Nat) (i : Nat) : List Nat := (h ++ [i]).mergeSort fun a b => decide (a ≤ b)
theorem ins_mem {h : List Nat} {i x : Nat} : x ∈ ins h i ↔ x ∈ h ∨ x = i := by
  unfold ins
  rw [(List.mergeSort_perm _ _).mem_iff, List.mem_append, List.mem_singleton]
theorem ins_asc {h : List Nat} {i : Nat} (ha : h.Pairwise (· < ·)) (hi : i ∉ h) : (ins h i).Pairwise (· < ·) := by
  have nd : (ins h i).Nodup := by
    unfold ins
    rw [(List.mergeSort_perm _ _).nodup_iff]
    exact List.nodup_append.mpr ⟨ha.imp fun z => Nat.ne_of_lt z, List.nodup_cons.mpr ⟨List.not_mem_nil, List.nodup_nil⟩, fun a ha b hb e => by
      rw [List.mem_singleton] at hb; subst hb; exact hi (e ▸ ha)⟩
  have so : (ins h i).Pairwise fun a b => decide (a ≤ b) = true := by
    unfold ins
    exact List.pairwise_mergeSort (fun a b c h1 h2 => by have := of_decide_eq_true h1; have := of_decide_eq_true h2; exact decide_eq_true (by omega)) (fun a b => by
      rcases Nat.le_total a b with z | z
      · rw [decide_eq_true z]; rfl
      · rw [decide_eq_true z]; cases decide (a ≤ b) <;> rfl) _
  have := List.Pairwise.and so nd
  exact this.imp fun z => by have := of_decide_eq_true z.1; have := z.2; omega
theorem mem_subs : ∀ {n : Nat} {h : List Nat}, h.Pairwise (· < ·) → (∀ x ∈ h, x < n) → h ∈ subs n
  | 0, h, _, hx => by
    cases h with
    | nil => exact List.mem_singleton.mpr rfl
    | cons a r => have := hx a List.mem_cons_self; omega
  | n + 1, h, ha, hx => by
    unfold subs
    by_cases hn : n ∈ h
    · have e : ∃ r, h = r ++ [n] := by
        rcases List.eq_nil_or_concat h with z | ⟨r, y, z⟩
        · subst z; cases hn
        · rw [List.concat_eq_append] at z
          subst z
          refine ⟨r, ?_⟩
          rcases List.mem_append.mp hn with w | w
          · have h1 := (List.pairwise_append.mp ha).2.2 n w y (List.mem_singleton.mpr rfl)
            have h2 := hx y (List.mem_append.mpr (.inr (List.mem_singleton.mpr rfl)))
            omega
          · rw [List.mem_singleton.mp w]
      obtain ⟨r, rfl⟩ := e
      obtain ⟨h1, h2, h3⟩ := List.pairwise_append.mp ha
      refine List.mem_append.mpr (.inr (List.mem_map.mpr ⟨r, mem_subs h1 fun x hxr => ?_, rfl⟩))
      exact h3 x hxr n (List.mem_singleton.mpr rfl)
    · refine List.mem_append.mpr (.inl (mem_subs ha fun x hxh => ?_))
      have := hx x hxh
      have : x ≠ n := fun z => hn (z ▸ hxh)
      omega
structure LayOk (L : Lay) : Prop where
  nd : (L.map (·.1)).Nodup
  asc : ∀ k ∈ L.map (·.1), k.1.Pairwise (· < ·) ∧ (∀ x ∈ k.1, x < 6) ∧ EndOk k.2
theorem nodup_map_of {α β : Type} {f : α → β} : ∀ {l : List α}, l.Nodup → (∀ a ∈ l, ∀ b ∈ l, f a = f b → a = b) → (l.map f).Nodup
  | [], _, _ => List.nodup_nil
  | a :: l, h, hi => by
    rw [List.nodup_cons] at h
    rw [List.map_cons, List.nodup_cons]
    refine ⟨fun z => ?_, nodup_map_of h.2 fun x hx y hy => hi x (List.mem_cons_of_mem _ hx) y (List.mem_cons_of_mem _ hy)⟩
    obtain ⟨b, hb, e⟩ := List.mem_map.mp z
    rw [hi a List.mem_cons_self b (List.mem_cons_of_mem _ hb) e.symm] at h
    exact h.1 hb
theorem lay_map (hf : NestedKey → Int) (L : Lay) : ((layD L).map fun p => hf (nk p.1)) = (L.map (·.1)).map fun k => hf (.tup [nkL k.1, .num k.2]) := by
  unfold layD
  rw [List.map_map, List.map_map]
  apply List.map_congr_left
  intro p _
  show hf (nk (keyD p.1)) = hf _
  rw [nk_key]
theorem LayOk.hash {L : Lay} (h : LayOk L) : hashOk (layD L) := by
  unfold hashOk
  rw [lay_map hashN]
  refine nodup_map_of h.nd fun a ha b hb z => ?_
  obtain ⟨a1, a2, a3⟩ := h.asc a ha
  obtain ⟨b1, b2, b3⟩ := h.asc b hb
  obtain ⟨h1, h2⟩ := key_eq (T := (subs 6).map nkL) check6 (List.mem_map_of_mem (mem_subs a1 a2)) (List.mem_map_of_mem (mem_subs b1 b2)) a3 b3 z
  exact Prod.ext (nkL_inj h1) h2
def ends : List Int := -1000 :: (List.range 401).map fun (i : Nat) => (i : Int)
def univ : List LK := (subs 6).flatMap fun h => ends.map fun e => (h, e)
theorem sub_len {α : Type} [DecidableEq α] : ∀ {a b : List α}, a.Nodup → (∀ x ∈ a, x ∈ b) → a.length ≤ b.length
  | [], b, _, _ => Nat.zero_le _
  | x :: a, b, h, hs => by
    rw [List.nodup_cons] at h
    have h1 := sub_len (b := b.erase x) h.2 fun y hy => (List.mem_erase_of_ne fun e => h.1 (by rw [← e]; exact hy)).mpr (hs y (List.mem_cons_of_mem _ hy))
    rw [List.length_erase_of_mem (hs x List.mem_cons_self)] at h1
    have : 0 < b.length := List.length_pos_of_mem (hs x List.mem_cons_self)
    rw [List.length_cons]; omega
theorem LayOk.len {L : Lay} (h : LayOk L) : L.length ≤ 25728 := by
  have : (L.map (·.1)).length ≤ univ.length := sub_len h.nd fun k hk => by
    obtain ⟨a1, a2, a3⟩ := h.asc k hk
    refine List.mem_flatMap.mpr ⟨k.1, mem_subs a1 a2, List.mem_map.mpr ⟨k.2, ?_, rfl⟩⟩
    unfold ends
    rcases a3 with e | e
    · rw [e]; exact List.mem_cons_self
    · refine List.mem_cons_of_mem _ (List.mem_map.mpr ⟨k.2.toNat, List.mem_range.mpr (by omega), by omega⟩)
  rw [List.length_map] at this
  have e : univ.length = 25728 := by
    unfold univ
    rw [List.length_flatMap]
    have : ∀ h : List Nat, (ends.map fun e => (h, e)).length = 402 := fun h => by rw [List.length_map]; unfold ends; rw [List.length_cons, List.length_map, List.length_range]
    simp only [this]
    decide
  omega
theorem LayOk.lt {L : Lay} (h : LayOk L) : (layD L).length < lim := by unfold layD; rw [List.length_map]; have := h.len; show _ < 16777216; omega
theorem LayOk.put {L : Lay} {k : LK} {v : Int} (h : LayOk L) (a : k.1.Pairwise (· < ·)) (b : ∀ x ∈ k.1, x < 6) (c : EndOk k.2) : LayOk (putL L k v) :=
  ⟨put_nodup h.nd, fun k' hk => by
    rcases put_keys hk with rfl | z
    · exact ⟨a, b, c⟩
    · exact h.asc k' z⟩
theorem LayOk.add {L : Lay} {k : LK} {m : Int} (h : LayOk L) (a : k.1.Pairwise (· < ·)) (b : ∀ x ∈ k.1, x < 6) (c : EndOk k.2) : LayOk (addL L k m) := h.put a b c
theorem toPys_nD : ∀ l : List Nat, toPys (l.map nD) = some (l.map fun (i : Nat) => PyData.int (i : Int))
  | [] => rfl
  | a :: l => by rw [List.map_cons, toPys, toPys_nD l]; rfl
theorem eqv_nD : ∀ a b : List Nat, PyData.eqvAll (a.map fun (i : Nat) => PyData.int (i : Int)) (b.map fun (i : Nat) => PyData.int (i : Int)) = decide (a = b)
  | [], [] => rfl
  | [], y :: b => rfl
  | x :: a, [] => rfl
  | x :: a, y :: b => by
    rw [List.map_cons, List.map_cons, PyData.eqvAll, eqv_nD a b, PyData.eqv]
    by_cases h1 : x = y <;> by_cases h2 : a = b <;> simp [h1, h2]
    omega
theorem lay_nD (l : List Nat) : PyData.canLayAll0 (l.map fun (i : Nat) => PyData.int (i : Int)) = true ∧ PyData.depthAll (l.map fun (i : Nat) => PyData.int (i : Int)) ≤ 1 := by
  induction l with
  | nil => exact ⟨by rw [List.map_nil]; rfl, by rw [List.map_nil]; decide⟩
  | cons a l ih =>
    rw [List.map_cons, PyData.canLayAll0, PyData.depthAll, ih.1]
    have : (PyData.int (a : Int)).depth ≤ 1 := by unfold PyData.depth; omega
    exact ⟨rfl, by omega⟩
theorem eqD_nDs (a b : List Nat) : eqD (.tup (a.map nD)) (.tup (b.map nD)) = some (decide (a = b)) := by
  unfold eqD
  rw [toPy, toPy, toPys_nD, toPys_nD]
  dsimp only [Option.map_some]
  have h : ∀ l : List Nat, SeqAt.shaped (.tuple (l.map fun (i : Nat) => PyData.int (i : Int))) = true := fun l => by
    unfold SeqAt.shaped
    have := lay_nD l
    rw [PyData.canLay0, this.1, PyData.depth, Bool.true_and, decide_eq_true_eq]
    omega
  rw [h, h, PyData.eqv, eqv_nD]
  rfl
abbrev Fix := List (Nat × Place)
def fixAt (fx : Fix) (i : Nat) : Option Place := (fx.find? fun z => decide (z.1 = i)).map (·.2)
def fixOk (fx : Fix) (i : Nat) (pl : Place) : Bool := decide ((fixAt fx i).getD pl = pl)
def plugAt (ps : List Plug) (i : Nat) : Plug := ps.getD i (0, 0, false)
def standsB (p : Plug) : List Bool := if canT p then [false, true] else [false]
theorem stands_map (p : Plug) : standsD p = (standsB p).map D.bl := by unfold standsD standsB; cases canT p <;> rfl
section
variable (s : List Int) (ps : List Plug) (w : List Nat) (fx : Fix)
def goes (n : Nat) (e : Int) (i : Nat) (t : Bool) : Bool := decide (e ≤ bBeg s (plugAt ps i) (n, t)) && fixOk fx i (n, t)
def st1 (n : Nat) (k : LK) (m : Int) (i : Nat) (L : Lay) (t : Bool) : Lay := if goes s ps fx n k.2 i t then addL L (ins k.1 i, bEnd s (plugAt ps i) (n, t)) m else L
def st2 (n : Nat) (k : LK) (m : Int) (L : Lay) (i : Nat) : Lay := if i ∈ k.1 then L else (standsB (plugAt ps i)).foldl (st1 s ps fx n k m i) L
def st3 (n : Nat) (L : Lay) (z : LK × Int) : Lay := w.foldl (st2 s ps fx n z.1 z.2) L
def st4 (L : Lay) (n : Nat) : Lay := L.foldl (st3 s ps w fx n) L
end
structure PsOk (s : List Int) (ps : List Plug) : Prop where
  sk : ∀ x ∈ s, 0 ≤ x ∧ x ≤ 300
  pl : ∀ p ∈ ps, PlugOk p
  len : ps.length ≤ 6
  sl : s.length ≤ 100
theorem app_set {α : Type} (pre : List α) (x y : α) : (pre ++ [x]).set pre.length y = pre ++ [y] := by simp
theorem app_get' {α : Type} (pre : List α) (x : α) : (pre ++ [x])[pre.length]? = some x := by simp
theorem plug_at {ps : List Plug} {i : Nat} (h : i < ps.length) : ps[i]? = some (plugAt ps i) := by
  unfold plugAt; rw [List.getD_eq_getElem?_getD, List.getElem?_eq_getElem h]; rfl
section
variable {s : List Int} {ps : List Plug} {w : List Nat} {fx : Fix}
abbrev iV (i : Int) : Option SV := some (.val (.int i))
theorem fold_ok {α β : Type} {f : β → α → β} {I : β → Prop} : ∀ {xs : List α} {b : β}, I b → (∀ b x, x ∈ xs → I b → I (f b x)) → I (xs.foldl f b)
  | [], b, h, _ => h
  | x :: xs, b, h, hs => fold_ok (xs := xs) (hs b x List.mem_cons_self h) fun b y hy => hs b y (List.mem_cons_of_mem _ hy)
end
section
variable {s : List Int} {ps : List Plug} {w : List Nat} {fx : Fix}
theorem lcT {α : Type} {tg : FG} {tt : FE Bool} {el : FE D} {ρ : Rho} {ω : Om} (f : α → D) (p : α → Bool) (y : α → D) : ∀ (xs : List α) (acc : List D), acc.length + xs.length ≤ lim →
    (∀ x ∈ xs, ∃ ρ1, tg (f x) ρ = some ρ1 ∧ tt ρ1 ω = .ok (p x) ω ∧ (p x = true → el ρ1 ω = .ok (y x) ω)) → lcL tg tt el ρ (xs.map f) acc ω = .ok (.lst (acc ++ (xs.filter p).map y)) ω
  | [], acc, _, _ => by rw [List.map_nil]; unfold lcL; simp
  | x :: xs, acc, hl, h => by
    obtain ⟨ρ1, h1, h2, h3⟩ := h x List.mem_cons_self
    rw [List.length_cons] at hl
    rw [List.map_cons]
    unfold lcL
    rw [h1]
    dsimp only
    rw [h2]
    cases q : p x with
    | true =>
      dsimp only
      rw [h3 q]
      dsimp only
      rw [if_pos (by omega), lcT f p y xs (acc ++ [y x]) (by simp; omega) fun d' hd' => h d' (List.mem_cons_of_mem _ hd'), List.filter_cons_of_pos q]
      simp
    | false =>
      dsimp only
      rw [lcT f p y xs acc (by omega) fun d' hd' => h d' (List.mem_cons_of_mem _ hd'), List.filter_cons_of_neg (by rw [q]; exact Bool.false_ne_true)]
end
section
variable {s : List Int} {ps : List Plug} {w : List Nat} {fx : Fix}
def mvT (s : List Int) (ps : List Plug) (fx : Fix) (n : Nat) (φ : LK → Int) (k : LK) (i : Nat) (t : Bool) : Int := if goes s ps fx n k.2 i t = true then φ (ins k.1 i, bEnd s (plugAt ps i) (n, t)) else 0
def mvI (s : List Int) (ps : List Plug) (fx : Fix) (n : Nat) (φ : LK → Int) (k : LK) (i : Nat) : Int := if i ∈ k.1 then 0 else ((standsB (plugAt ps i)).map (mvT s ps fx n φ k i)).sum
def mv (s : List Int) (ps : List Plug) (w : List Nat) (fx : Fix) (n : Nat) (φ : LK → Int) (k : LK) : Int := (w.map (mvI s ps fx n φ k)).sum
def back (s : List Int) (ps : List Plug) (w : List Nat) (fx : Fix) (φ : LK → Int) : Nat → Nat → LK → Int
  | 0, _, k => φ k
  | r + 1, n, k => back s ps w fx φ r (n + 1) k + mv s ps w fx n (back s ps w fx φ r (n + 1)) k
end
def addP (n : Nat) (ps : List Plug) (k : Nat) (rows : List Plan) : List Plan := rows.flatMap fun one => (placesN n (plugAt ps k)).map fun pl => one.set k (some pl)
def allR (n : Nat) (ps : List Plug) : List Nat → List Plan
  | [] => [List.replicate ps.length none]
  | k :: r => addP n ps k (allR n ps r)
def allP (n : Nat) (ps : List Plug) (w : List Nat) : List Plan := allR n ps w.reverse
structure Full (n : Nat) (ps : List Plug) (w : List Nat) (q : Plan) : Prop where
  len : q.length = ps.length
  on : ∀ i ∈ w, ∃ pl, pl ∈ placesN n (plugAt ps i) ∧ q[i]? = some (some pl)
  off : ∀ i, i < ps.length → i ∉ w → q[i]? = some none
open Classical in
noncomputable def io (p : Prop) : Int := if p then 1 else 0
noncomputable def num (U : List Plan) (P : Plan → Prop) : Int := (U.map fun q => io (P q)).sum
abbrev Chn := List (Nat × Place)
section
variable (s : List Int) (ps : List Plug) (w : List Nat) (fx : Fix)
abbrev zEnd (z : Nat × Place) : Int := bEnd s (plugAt ps z.1) z.2
abbrev zBeg (z : Nat × Place) : Int := bBeg s (plugAt ps z.1) z.2
structure Ch (n : Nat) (k : LK) (c : Chn) : Prop where
  asc : k.1.Pairwise (· < ·)
  idx : ∀ x, x ∈ k.1 ↔ x ∈ c.map (·.1)
  hd : (c = [] ∧ k.2 = -1000) ∨ ∃ z r, c = z :: r ∧ k.2 = zEnd s ps z
  each : ∀ z ∈ c, z.1 ∈ w ∧ z.2.1 < n ∧ z.2.2 ∈ standsB (plugAt ps z.1) ∧ fixOk fx z.1 z.2 = true ∧ zEnd s ps z ≤ k.2
  pw : c.Pairwise fun a b => b.2.1 < a.2.1 ∧ b.1 ≠ a.1 ∧ zEnd s ps b ≤ zBeg s ps a
end
section
variable {s : List Int} {ps : List Plug} {w : List Nat} {fx : Fix}
theorem plugAt_ok (P : PsOk s ps) {i : Nat} (hi : i < ps.length) : PlugOk (plugAt ps i) := P.pl _ (List.mem_of_getElem? (plug_at hi))
theorem beg_end (P : PsOk s ps) {i : Nat} (hi : i < ps.length) (pl : Place) : bBeg s (plugAt ps i) pl ≤ bEnd s (plugAt ps i) pl := by
  have h2 := plugAt_ok P hi
  have := h2.l0; have := h2.l1; have := h2.r0; have := h2.r1
  unfold bBeg bEnd sideL sideR
  cases pl.2 <;> simp <;> omega
theorem Ch.mono {n : Nat} {k : LK} {c : Chn} (h : Ch s ps w fx n k c) : Ch s ps w fx (n + 1) k c :=
  ⟨h.asc, h.idx, h.hd, fun z hz => have e := h.each z hz; ⟨e.1, by have := e.2.1; omega, e.2.2⟩, h.pw⟩
theorem Ch.add (P : PsOk s ps) (W : ∀ i ∈ w, i < ps.length) {n i : Nat} {t : Bool} {k : LK} {c : Chn} (h : Ch s ps w fx n k c) (hi : i ∈ w) (hk : i ∉ k.1) (ht : t ∈ standsB (plugAt ps i)) (hg : goes s ps fx n k.2 i t = true) :
    Ch s ps w fx (n + 1) (ins k.1 i, bEnd s (plugAt ps i) (n, t)) ((i, (n, t)) :: c) := by
  unfold goes at hg
  obtain ⟨g1, g2⟩ := Bool.and_eq_true_iff.mp hg
  have g1 := of_decide_eq_true g1
  have be := beg_end P (W i hi) (n, t)
  refine ⟨ins_asc h.asc hk, fun x => ?_, .inr ⟨_, _, rfl, rfl⟩, fun z hz => ?_, List.pairwise_cons.mpr ⟨fun z hz => ?_, h.pw⟩⟩
  · rw [ins_mem, List.map_cons, List.mem_cons, h.idx]
    exact ⟨fun z => z.elim .inr .inl, fun z => z.elim .inr .inl⟩
  · rcases List.mem_cons.mp hz with rfl | hz
    · exact ⟨hi, by dsimp only; omega, ht, g2, Int.le_refl _⟩
    · have e := h.each z hz
      exact ⟨e.1, by have := e.2.1; omega, e.2.2.1, e.2.2.2.1, by have := e.2.2.2.2; dsimp only; omega⟩
  · have e := h.each z hz
    exact ⟨e.2.1, fun q => hk ((h.idx i).mpr (List.mem_map.mpr ⟨z, hz, q⟩)), by have := e.2.2.2.2; show zEnd s ps z ≤ bBeg s (plugAt ps i) (n, t); omega⟩
theorem Ch.nd {n : Nat} {k : LK} {c : Chn} (h : Ch s ps w fx n k c) : c.Pairwise fun a b => b.1 ≠ a.1 := h.pw.imp fun z => z.2.1
end
section
variable (s : List Int) (ps : List Plug) (w : List Nat) (fx : Fix)
def fixB (q : Plan) : Bool := w.all fun i => match q[i]? with
  | some (some pl) => fixOk fx i pl
  | _ => true
def okayB (q : Plan) : Bool := Dl.isNon (fault s ps q) && fixB w fx q
def vals : List Plan := (allP s.length ps w).filter (okayB s ps w fx)
end
section
variable {s : List Int} {ps : List Plug} {w : List Nat} {fx : Fix}
end
abbrev badPlugs (d : D) : Exn := ⟨"BadPlugs", [("index", d)]⟩
abbrev bare (c : Str) : Exn := ⟨c, []⟩
theorem lcL_bools {tg : FG} {el : FE D} {ρ : Rho} {ω : Om} (f : D → Bool) {ds : List D} (hl : ds.length ≤ lim) (h : ∀ d ∈ ds, ∃ ρ1, tg d ρ = some ρ1 ∧ el ρ1 ω = .ok (.bl (f d)) ω) : lcL tg eTrue el ρ ds [] ω = .ok (.lst (ds.map fun d => .bl (f d))) ω := by
  rw [lcL_pure (fun d => some (.bl (f d))) ds [] (by simpa using hl)]
  · rw [List.nil_append, ← List.filterMap_eq_map]; rfl
  · intro d hd
    obtain ⟨ρ1, h1, h2⟩ := h d hd
    exact ⟨ρ1, h1, rfl, h2⟩
theorem asBls_mapQ {α : Type} (f : α → Bool) : ∀ l : List α, asBls (l.map fun a => D.bl (f a)) = some (l.map f)
  | [] => rfl
  | a :: l => by
    show (asBls (l.map fun a => D.bl (f a))).map (f a :: ·) = _
    rw [asBls_mapQ f l]; rfl
theorem all_mapQ {α : Type} (f : α → Bool) (l : List α) : oAllL (l.map fun a => D.bl (f a)) = some (.bl (l.all f)) := by
  unfold oAllL
  rw [asBls_mapQ]
  show some (D.bl ((l.map f).all id)) = _
  rw [List.all_map]; rfl
theorem enum_cons (d : D) (ds : List D) (k : Nat) : ((d :: ds).mapIdx fun i e => pairI (k + i) e) = pairI k d :: ds.mapIdx fun i e => pairI (k + 1 + i) e := by
  rw [List.mapIdx_cons]
  congr 1
  apply List.mapIdx_eq_mapIdx_iff.mpr
  intro i hi
  rw [Nat.add_assoc, Nat.add_comm 1 i]
theorem enum_zero (ds : List D) : enumD ds = ds.mapIdx fun i e => pairI (0 + i) e := by
  unfold enumD
  apply List.mapIdx_eq_mapIdx_iff.mpr
  intro i hi
  rw [Nat.zero_add]
theorem check_bd_ok {v m d : D} {k : Nat} (h : F_is_plug [d] = some (.ok (.bl true))) : bd_check_plugs_2_1 [some (SV.val (v)), some (SV.val (m)), some (SV.val (.int (k : Int))), some (SV.val (d))] [] = .next [some (SV.val (v)), some (SV.val (m)), some (SV.val (.int (k : Int))), some (SV.val (d))] [] := by
  unfold bd_check_plugs_2_1
  push_cast [h]
theorem check_bd_bad {v m d : D} {k : Nat} (h : F_is_plug [d] = some (.ok (.bl false))) : bd_check_plugs_2_1 [some (SV.val (v)), some (SV.val (m)), some (SV.val (.int (k : Int))), some (SV.val (d))] [] = .exc (badPlugs (.int (k : Int))) [some (SV.val (v)), some (SV.val (m)), some (SV.val (.int (k : Int))), some (SV.val (d))] [] := by
  unfold bd_check_plugs_2_1
  push_cast [h]
abbrev tgEn (i j : Nat) : FG := gT 2 (gsCons (gN i) (gsCons (gN j) gsNil))
theorem tgEn_run {v m d : D} {x y : Option SV} {k : Nat} : tgEn 2 3 (pairI k d) [some (SV.val (v)), some (SV.val (m)), x, y] = some [some (SV.val (v)), some (SV.val (m)), some (SV.val (.int (k : Int))), some (SV.val (d))] := rfl
theorem check_loop_bad {v m bad : D} {post : List D} (hb : F_is_plug [bad] = some (.ok (.bl false))) : ∀ (pre : List D) (k : Nat) (x y : Option SV), (∀ d ∈ pre, F_is_plug [d] = some (.ok (.bl true))) →
    ∃ ρ', forL (tgEn 2 3) bd_check_plugs_2_1 ((pre ++ bad :: post).mapIdx fun i e => pairI (k + i) e) [some (SV.val (v)), some (SV.val (m)), x, y] [] = .exc (badPlugs (.int ((k + pre.length : Nat) : Int))) ρ' []
  | [], k, x, y, _ => by
    rw [List.nil_append, enum_cons]
    exact ⟨_, forL_exc tgEn_run (check_bd_bad hb)⟩
  | d :: pre, k, x, y, h => by
    rw [List.cons_append, enum_cons, forL_next tgEn_run (check_bd_ok (h d List.mem_cons_self))]
    obtain ⟨ρ', e⟩ := check_loop_bad (post := post) hb pre (k + 1) (some (.val (.int (k : Int)))) (some (.val d)) fun d' hd => h d' (List.mem_cons_of_mem _ hd)
    refine ⟨ρ', e.trans ?_⟩
    rw [List.length_cons, Nat.add_right_comm, Nat.add_assoc]
theorem check_loop_ok {v m : D} : ∀ (pre : List D) (k : Nat) (x y : Option SV), (∀ d ∈ pre, F_is_plug [d] = some (.ok (.bl true))) →
    ∃ ρ', forL (tgEn 2 3) bd_check_plugs_2_1 (pre.mapIdx fun i e => pairI (k + i) e) [some (SV.val (v)), some (SV.val (m)), x, y] [] = .next ρ' []
  | [], k, x, y, _ => ⟨_, rfl⟩
  | d :: pre, k, x, y, h => by
    rw [enum_cons, forL_next tgEn_run (check_bd_ok (h d List.mem_cons_self))]
    exact check_loop_ok pre (k + 1) _ _ fun d' hd => h d' (List.mem_cons_of_mem _ hd)
theorem check_plugs_bad {pre post : List D} {bad : D} {most : Int} (hpre : ∀ d ∈ pre, F_is_plug [d] = some (.ok (.bl true))) (hb : F_is_plug [bad] = some (.ok (.bl false))) (hl : ((pre ++ bad :: post).length : Int) ≤ most) :
    F_check_plugs_2 [.tup (pre ++ bad :: post), .int most] = some (.error (badPlugs (.int (pre.length : Int)))) := by
  unfold F_check_plugs_2
  rw [fnP_run (by rfl)]
  unfold f_check_plugs_2
  have h1 : decide ((1 : Int) ≤ ((pre ++ bad :: post).length : Int)) = true := by simp; omega
  have h2 : decide (((pre ++ bad :: post).length : Int) ≤ most) = true := decide_eq_true hl
  obtain ⟨ρ', e⟩ := check_loop_bad (v := .tup (pre ++ bad :: post)) (m := .int most) (post := post) hb pre 0 none none hpre
  rw [← enum_zero, Nat.zero_add] at e
  push_cast [h1, h2, e]
theorem check_plugs_ok2 {ps : List Plug} {most : Int} (h : ∀ p ∈ ps, PlugOk p) (hne : ps ≠ []) (hl : (ps.length : Int) ≤ most) : F_check_plugs_2 [plugsD ps, .int most] = some (.ok .non) := by
  unfold F_check_plugs_2
  rw [fnP_run (by rfl)]
  unfold f_check_plugs_2 plugsD
  have h1 : decide ((1 : Int) ≤ (ps.length : Int)) = true := by
    cases ps with
    | nil => exact absurd rfl hne
    | cons a b => simp; omega
  have h2 : decide ((ps.length : Int) ≤ most) = true := decide_eq_true hl
  obtain ⟨ρ', e⟩ := check_loop_ok (v := .tup (ps.map encP)) (m := .int most) (ps.map encP) 0 none none (fun d hd => by
    obtain ⟨p, hp, rfl⟩ := List.mem_map.mp hd
    exact is_plug_run (h p hp))
  rw [← enum_zero] at e
  push_cast [List.length_map, h1, h2, e]
section
variable {S P V U : D} {x : Exn}
end
section
variable {S P V U : D} {w : Int}
end
theorem atI_mem {xs : List D} {r : Int} (h0 : 0 ≤ r) (h : r < xs.length) : ∃ d, d ∈ xs ∧ atI xs r = some d := by
  have hl : r.toNat < xs.length := by omega
  exact ⟨xs[r.toNat], List.getElem_mem hl, by rw [atI_get' h0, List.getElem?_eq_getElem hl]⟩
theorem strip_init2 {s : List Int} (h : Socks s) (hl : s.length ≤ 9) : F_Strip_d__init_d__2 [.own 0, .val (socksD s)] [some (.ins "Strip" [])] = .ok (.val .non) [some (.ins "Strip" [("rows", socksD s)])] := by
  have h1 : decide ((1 : Int) ≤ (s.length : Int)) = true := by
    have : s.length ≠ 0 := fun z => h.ne (List.eq_nil_of_length_eq_zero z)
    simp; omega
  have h2 : decide ((s.length : Int) ≤ 9) = true := by simp; omega
  have e9 : itSeq (socksD s) = some (s.map D.int) := rfl
  have e10 : slD (some 1) none (socksD s) = some (.tup ((s.map D.int).drop 1)) := cut1 _
  have e11 : ∀ x, itZ (socksD s) (.tup x) = some (zipD (s.map D.int) x) := fun x => rfl
  have e5 : lc_Strip_d__init_d__2_1 [some (SV.own 0), some (SV.val (socksD s)), none, none] [some (.ins "Strip" [])] = .ok (.lst (List.replicate (s.map D.int).length (.bl true))) [some (.ins "Strip" [])] := by
    unfold lc_Strip_d__init_d__2_1
    push_cast [e9]
    exact lcL_true (by rw [List.length_map]; show _ ≤ 16777216; omega) (fun d hd => by
      refine ⟨_, rfl, ?_⟩
      obtain ⟨x, hx, rfl⟩ := List.mem_map.mp hd
      have e : F_is_from [.int x, .int 0, .int 300] = some (.ok (.bl true)) := by rw [is_from_run, decide_eq_true (h.rg x hx)]
      push_cast [e])
  have e6 : lc_Strip_d__init_d__2_2 [some (SV.own 0), some (SV.val (socksD s)), none, none] [some (.ins "Strip" [])] = .ok (.lst (List.replicate (zipD (s.map D.int) ((s.map D.int).drop 1)).length (.bl true))) [some (.ins "Strip" [])] := by
    unfold lc_Strip_d__init_d__2_2
    push_cast [e10, e11]
    exact lcL_true (by unfold zipD; rw [List.length_zipWith, List.length_map]; show _ ≤ 16777216; omega) (fun d hd => by
      obtain ⟨a, b, rfl, hab⟩ := zip_tail s h.asc d hd
      refine ⟨_, rfl, ?_⟩
      push_cast [decide_eq_true hab])
  unfold F_Strip_d__init_d__2
  rw [fnE_run (by rfl)]
  unfold f_Strip_d__init_d__2
  have e7 : oLen [socksD s] = some (.int s.length) := by unfold socksD; rw [oLen_tup, List.length_map]
  have e8 : isiD "tuple" (socksD s) = some (.bl true) := isi_tuple_tup _
  push_cast [h1, h2, e5, e6, e7, e8, oAllL_true]
  rfl
def oddP : List D := [.non, .tup [.int 1, .int 2], .lst [.int 1, .int 2, .bl true], .tup [.int 1, .int 2, .int 1], .tup [.int 61, .int 0, .bl true], .tup [.int 0, .int (-1), .bl false], .tup [.bl true, .int 0, .bl false], .tup [.int 0, .int 0, .non], .str "plug"]
theorem oddP_bad {d : D} (h : d ∈ oddP) : F_is_plug [d] = some (.ok (.bl false)) := by
  unfold oddP at h
  simp only [List.mem_cons, List.not_mem_nil, or_false] at h
  rcases h with rfl | rfl | rfl | rfl | rfl | rfl | rfl | rfl | rfl <;> rfl
theorem odd_plug {ns : List Int} {rest ω : Om} (h : IsRow ns rest ω) : ∃ d ω', IsRow ns rest ω' ∧ d ∈ oddP ∧ F__law_odd_plug [.own 0] ω = .ok (.val d) ω' := by
  obtain ⟨r, ω1, w1, a1, b1, e1⟩ := pick (m := 9) h (by decide) (by decide)
  obtain ⟨d, hd, e2⟩ := atI_mem (xs := oddP) a1 b1
  refine ⟨d, ω1, w1, hd, ?_⟩
  unfold F__law_odd_plug
  rw [fnE_run (by rfl)]
  unfold f__law_odd_plug
  unfold oddP at e2
  push_cast [e1, e2, row_take h w1]
section
variable {s : List Int} {ps : List Plug} {plan : Plan}
structure PlsOk (ps : List Plug) : Prop where
  ok : ∀ p ∈ ps, PlugOk p
  ne : ps ≠ []
  len : ps.length ≤ 5
end
section
variable {s : List Int} {ps : List Plug} {w : List Nat} {fx : Fix}
abbrev allW (ps : List Plug) : List Nat := List.range ps.length
end
theorem forL_foldI {tg : FG} {b : FS} {α β : Type} (f : α → D) (step : β → α → β) (I : Nat → β → Rho → Om → Prop) : ∀ (xs : List α) (n : Nat) (s : β) (ρ : Rho) (ω : Om), I n s ρ ω →
    (∀ m s x ρ ω, x ∈ xs → m < n + xs.length → I m s ρ ω → ∃ ρ1 ρ2 ω2, tg (f x) ρ = some ρ1 ∧ b ρ1 ω = .next ρ2 ω2 ∧ I (m + 1) (step s x) ρ2 ω2) → ∃ ρ' ω', forL tg b (xs.map f) ρ ω = .next ρ' ω' ∧ I (n + xs.length) (xs.foldl step s) ρ' ω'
  | [], n, s, ρ, ω, h, _ => ⟨ρ, ω, rfl, h⟩
  | x :: xs, n, s, ρ, ω, h, hs => by
    obtain ⟨ρ1, ρ2, ω2, h1, h2, h3⟩ := hs n s x ρ ω List.mem_cons_self (by rw [List.length_cons]; omega) h
    obtain ⟨ρ', ω', h4, h5⟩ := forL_foldI f step I xs (n + 1) (step s x) ρ2 ω2 h3 fun m s y ρ ω hy hm => hs m s y ρ ω (List.mem_cons_of_mem _ hy) (by rw [List.length_cons]; omega)
    refine ⟨ρ', ω', by rw [List.map_cons, forL_next h1 h2]; exact h4, ?_⟩
    rw [List.length_cons, List.foldl_cons, show n + (xs.length + 1) = n + 1 + xs.length by omega]
    exact h5
section
variable {s : List Int} {ps : List Plug} {w : List Nat} {sd : D}
end
section
variable {s : List Int} {ps : List Plug} {w : List Nat}
theorem whole {q : Plan} (F : Full s.length ps (allW ps) q) : ∃ l : List Place, q = l.map some := by
  have : ∀ o ∈ q, ∃ x : Place, o = some x := fun o ho => by
    obtain ⟨i, hi⟩ := List.getElem?_of_mem ho
    have hl : i < ps.length := by rw [← F.len]; exact (List.getElem?_eq_some_iff.mp hi).1
    obtain ⟨pl, _, e⟩ := F.on i (List.mem_range.mpr hl)
    rw [hi] at e
    cases e
    exact ⟨pl, rfl⟩
  clear F
  induction q with
  | nil => exact ⟨[], rfl⟩
  | cons o q ih =>
    obtain ⟨x, rfl⟩ := this o List.mem_cons_self
    obtain ⟨l, rfl⟩ := ih fun o ho => this o (List.mem_cons_of_mem _ ho)
    exact ⟨x :: l, rfl⟩
end
theorem eqD_some {n : Nat} {d : D} {ds : List D} (h : dOk n (.lst (d :: ds)) = true) (hn : n ≤ 64) : eqD (.lst (d :: ds)) (.lst []) = some false := by
  obtain ⟨p, h1, h2, h3⟩ := toPy_ok n _ h
  unfold eqD
  rw [h1, show toPy (.lst []) = some (.list []) from rfl]
  have hs : SeqAt.shaped p = true := by unfold SeqAt.shaped; rw [h2, Bool.true_and, decide_eq_true_eq]; omega
  dsimp only
  rw [hs, show SeqAt.shaped (.list []) = true from by decide]
  rw [toPy, toPys] at h1
  cases u : toPy d with
  | none => rw [u] at h1; cases h1
  | some x =>
    rw [u] at h1
    cases u2 : toPys ds with
    | none => rw [u2] at h1; cases h1
    | some y =>
      rw [u2] at h1
      cases h1
      simp [PyData.eqv, PyData.eqvAll]
theorem eqD_nilL : eqD (.lst []) (.lst []) = some true := eqD_refl 1 rfl (by decide)
def cuv : Nat → Nat → List (List Nat)
  | 0, _ => [[]]
  | m + 1, n => (List.range (n + 1)).flatMap fun x => (cuv m (n - x)).map (x :: ·)
theorem mem_cuv : ∀ {m n : Nat} {c : List Nat}, c.length = m → c.sum ≤ n → c ∈ cuv m n
  | 0, n, c, h, _ => by rw [List.eq_nil_of_length_eq_zero h]; exact List.mem_singleton.mpr rfl
  | m + 1, n, [], h, _ => by cases h
  | m + 1, n, x :: c, h, hs => by
    rw [List.sum_cons] at hs
    exact List.mem_flatMap.mpr ⟨x, List.mem_range.mpr (by omega), List.mem_map_of_mem (mem_cuv (by simpa using h) (by omega))⟩
theorem check_cuv : ∀ m ∈ [1, 2, 3], checkT (((cuv m 9).map nkL).map hb) = true := by decide +kernel
theorem len_cuv : ∀ m ∈ [1, 2, 3], (cuv m 9).length ≤ 220 := by decide +kernel
theorem mem3 {m : Nat} (h1 : 1 ≤ m) (h3 : m ≤ 3) : m ∈ [1, 2, 3] := by
  have : m = 1 ∨ m = 2 ∨ m = 3 := by omega
  rcases this with rfl | rfl | rfl <;> decide
def kvC (k : LK) : D × D := (keyD k, .bl true)
def kD (L : List LK) : KVs := L.map kvC
def setK (L : List LK) (k : LK) : List LK := if k ∈ L then L else L ++ [k]
theorem dnGet_k {L : List LK} {k : LK} : dnGet (kD L) (nk (keyD k)) = if k ∈ L then some (.bl true) else none := by
  unfold dnGet kD
  induction L with
  | nil => rfl
  | cons x L ih =>
    rw [List.map_cons, List.find?_cons]
    by_cases h : x = k
    · subst h
      rw [if_pos List.mem_cons_self]
      simp [kvC]
    · have hn : ¬ nk (kvC x).1 = nk (keyD k) := fun e => h (nk_inj.mp e)
      rw [decide_eq_false hn]
      dsimp only
      rw [ih]
      by_cases hk : k ∈ L
      · rw [if_pos hk, if_pos (List.mem_cons_of_mem _ hk)]
      · rw [if_neg hk, if_neg fun z => (List.mem_cons.mp z).elim (fun e => h e.symm) hk]
theorem dnPut_k {L : List LK} {k : LK} : dnPut (kD L) (keyD k) (.bl true) = kD (setK L k) := by
  unfold dnPut setK
  rw [dnGet_k]
  by_cases h : k ∈ L
  · rw [if_pos h, if_pos h, if_pos (show (some (D.bl true)).isSome = true from rfl)]
    unfold kD
    rw [List.map_map]
    apply List.map_congr_left
    intro x _
    dsimp only [Function.comp, kvC]
    exact ite_self _
  · rw [if_neg h, if_neg h, if_neg (by simp)]
    unfold kD
    rw [List.map_append]
    rfl
theorem setK_mem {L : List LK} {k x : LK} : x ∈ setK L k ↔ x ∈ L ∨ x = k := by
  unfold setK
  split
  · rename_i h
    exact ⟨.inl, fun z => z.elim id fun e => e ▸ h⟩
  · rw [List.mem_append, List.mem_singleton]
structure CkOk (m : Nat) (n : Nat) (L : List LK) : Prop where
  nd : L.Nodup
  ok : ∀ k ∈ L, k.1.length = m ∧ k.1.sum ≤ n ∧ EndOk k.2
theorem CkOk.mono {m n n' : Nat} {L : List LK} (h : CkOk m n L) (hn : n ≤ n') : CkOk m n' L := ⟨h.nd, fun k hk => ⟨(h.ok k hk).1, by have := (h.ok k hk).2.1; omega, (h.ok k hk).2.2⟩⟩
theorem CkOk.put {m n : Nat} {L : List LK} {k : LK} (h : CkOk m n L) (a : k.1.length = m) (b : k.1.sum ≤ n) (c : EndOk k.2) : CkOk m n (setK L k) := by
  refine ⟨?_, fun x hx => ?_⟩
  · unfold setK
    split
    · exact h.nd
    · rename_i hk
      exact List.nodup_append.mpr ⟨h.nd, List.pairwise_singleton _ _, fun x hx y hy e => hk (by rw [List.mem_singleton] at hy; rw [← hy, ← e]; exact hx)⟩
  · rcases setK_mem.mp hx with z | z
    · exact h.ok x z
    · subst z; exact ⟨a, b, c⟩
theorem k_map (hf : NestedKey → Int) (L : List LK) : ((kD L).map fun p => hf (nk p.1)) = L.map fun k => hf (.tup [nkL k.1, .num k.2]) := by
  unfold kD
  rw [List.map_map]
  apply List.map_congr_left
  intro k _
  show hf (nk (keyD k)) = hf _
  rw [nk_key]
theorem CkOk.hash {m n : Nat} {L : List LK} (h : CkOk m n L) (h1 : 1 ≤ m) (h3 : m ≤ 3) (h9 : n ≤ 9) : hashOk (kD L) := by
  unfold hashOk
  rw [k_map hashN]
  refine nodup_map_of h.nd fun a ha b hb z => ?_
  obtain ⟨a1, a2, a3⟩ := h.ok a ha
  obtain ⟨b1, b2, b3⟩ := h.ok b hb
  obtain ⟨g1, g2⟩ := key_eq (T := (cuv m 9).map nkL) (check_cuv m (mem3 h1 h3)) (List.mem_map_of_mem (mem_cuv a1 (by omega))) (List.mem_map_of_mem (mem_cuv b1 (by omega))) a3 b3 z
  exact Prod.ext (nkL_inj g1) g2
theorem CkOk.len {m n : Nat} {L : List LK} (h : CkOk m n L) (h1 : 1 ≤ m) (h3 : m ≤ 3) (h9 : n ≤ 9) : L.length ≤ 88440 := by
  have : L.length ≤ ((cuv m 9).flatMap fun c => ends.map fun e => (c, e)).length := sub_len h.nd fun k hk => by
    obtain ⟨a1, a2, a3⟩ := h.ok k hk
    refine List.mem_flatMap.mpr ⟨k.1, mem_cuv a1 (by omega), List.mem_map.mpr ⟨k.2, ?_, rfl⟩⟩
    unfold ends
    rcases a3 with e | e
    · rw [e]; exact List.mem_cons_self
    · exact List.mem_cons_of_mem _ (List.mem_map.mpr ⟨k.2.toNat, List.mem_range.mpr (by omega), by omega⟩)
  have e : ∀ l : List (List Nat), (l.flatMap fun c => ends.map fun e => (c, e)).length = l.length * 402 := fun l => by
    induction l with
    | nil => rfl
    | cons a l ih =>
      rw [List.flatMap_cons, List.length_append, ih, List.length_map, List.length_cons]
      unfold ends
      rw [List.length_cons, List.length_map, List.length_range]
      omega
  rw [e] at this
  have := len_cuv m (mem3 h1 h3)
  omega
theorem CkOk.lt {m n : Nat} {L : List LK} (h : CkOk m n L) (h1 : 1 ≤ m) (h3 : m ≤ 3) (h9 : n ≤ 9) : (kD L).length < lim := by unfold kD; rw [List.length_map]; have := h.len h1 h3 h9; show _ < 16777216; omega
def incC (c : List Nat) (i : Nat) : List Nat := c.take i ++ (c.getD i 0 + 1) :: c.drop (i + 1)
theorem incC_len {c : List Nat} {i : Nat} (h : i < c.length) : (incC c i).length = c.length := by
  unfold incC
  rw [List.length_append, List.length_take, List.length_cons, List.length_drop]
  omega
theorem incC_sum {c : List Nat} {i : Nat} (h : i < c.length) : (incC c i).sum = c.sum + 1 := by
  unfold incC
  have e : c = c.take i ++ c[i] :: c.drop (i + 1) := by rw [← List.drop_eq_getElem_cons h, List.take_append_drop]
  have e2 : c.sum = (c.take i).sum + (c[i] + (c.drop (i + 1)).sum) := by
    conv => lhs; rw [e]
    rw [List.sum_append, List.sum_cons]
  rw [List.sum_append, List.sum_cons, e2, List.getD_eq_getElem?_getD, List.getElem?_eq_getElem h]
  simp only [Option.getD_some]
  omega
section
variable (s : List Int) (n : Nat)
def cs1 (k : LK) (i : Nat) (p : Plug) (L : List LK) (t : Bool) : List LK := if k.2 ≤ bBeg s p (n, t) then setK L (incC k.1 i, bEnd s p (n, t)) else L
def cs2 (k : LK) (L : List LK) (z : Nat × Plug) : List LK := (standsB z.2).foldl (cs1 s n k z.1 z.2) L
def cs3 (ks : List Plug) (L : List LK) (k : LK) : List LK := (ks.mapIdx fun i p => (i, p)).foldl (cs2 s n k) L
def cs4 (ks : List Plug) (L : List LK) (m : Nat) : List LK := L.foldl (cs3 s m ks) L
def layC (ks : List Plug) (m : Nat) : List LK := (List.range m).foldl (cs4 s ks) [(List.replicate ks.length 0, -1000)]
def cnts (ks : List Plug) : List (List Nat) := (layC s ks s.length).foldl (fun acc k => if k.1 ∈ acc then acc else acc ++ [k.1]) []
end
theorem end_okP {s : List Int} {p : Plug} {n : Nat} {t : Bool} (hs : ∀ x ∈ s, 0 ≤ x ∧ x ≤ 300) (hp : PlugOk p) (hn : n < s.length) : EndOk (bEnd s p (n, t)) := by
  have h1 := hs s[n] (List.getElem_mem hn)
  have h3 : s.getD n 0 = s[n] := by rw [List.getD_eq_getElem?_getD, List.getElem?_eq_getElem hn]; rfl
  refine .inr ?_
  unfold bEnd sideR
  rw [h3]
  have := hp.l0; have := hp.l1; have := hp.r0; have := hp.r1
  cases t <;> simp <;> omega
section
variable {s : List Int} {ks : List Plug}
structure KsOk (s : List Int) (ks : List Plug) : Prop where
  sk : ∀ x ∈ s, 0 ≤ x ∧ x ≤ 300
  pl : ∀ p ∈ ks, PlugOk p
  m1 : 1 ≤ ks.length
  m3 : ks.length ≤ 3
  s9 : s.length ≤ 9
theorem cs1_ok (Q : KsOk s ks) {n N i : Nat} {p : Plug} {k : LK} {L : List LK} {t : Bool} (hn : n < s.length) (hp : PlugOk p) (hi : i < ks.length) (hk : k.1.length = ks.length) (hs : k.1.sum < N) (O : CkOk ks.length N L) : CkOk ks.length N (cs1 s n k i p L t) := by
  unfold cs1
  split
  · exact O.put (by rw [incC_len (by omega), hk]) (by rw [incC_sum (by omega)]; omega) (end_okP Q.sk hp hn)
  · exact O
theorem mem_idx {z : Nat × Plug} (h : z ∈ ks.mapIdx fun i p => (i, p)) : z.1 < ks.length ∧ ks[z.1]? = some z.2 := by
  rw [List.mem_mapIdx] at h
  obtain ⟨i, hi, e⟩ := h
  subst e
  exact ⟨hi, List.getElem?_eq_getElem hi⟩
theorem cs2_ok (Q : KsOk s ks) {n N : Nat} {z : Nat × Plug} {k : LK} {L : List LK} (hn : n < s.length) (hz : z ∈ ks.mapIdx fun i p => (i, p)) (hk : k.1.length = ks.length) (hs : k.1.sum < N) (O : CkOk ks.length N L) : CkOk ks.length N (cs2 s n k L z) :=
  fold_ok O fun L t _ O => cs1_ok Q hn (Q.pl _ (List.mem_of_getElem? (mem_idx hz).2)) (mem_idx hz).1 hk hs O
theorem cs3_ok (Q : KsOk s ks) {n N : Nat} {k : LK} {L : List LK} (hn : n < s.length) (hk : k.1.length = ks.length) (hs : k.1.sum < N) (O : CkOk ks.length N L) : CkOk ks.length N (cs3 s n ks L k) :=
  fold_ok O fun L z hz O => cs2_ok Q hn hz hk hs O
theorem cs4_ok (Q : KsOk s ks) {n N : Nat} {L : List LK} (hn : n < s.length) (O : CkOk ks.length N L) : CkOk ks.length (N + 1) (cs4 s ks L n) :=
  fold_ok (O.mono (by omega)) fun L' k hk O' => cs3_ok Q hn (O.ok k hk).1 (by have := (O.ok k hk).2.1; omega) O'
theorem layC_ok (Q : KsOk s ks) : ∀ {m : Nat}, m ≤ s.length → CkOk ks.length m (layC s ks m)
  | 0, _ => ⟨by unfold layC; simp, fun k hk => by
    unfold layC at hk
    rw [List.range_zero, List.foldl_nil, List.mem_singleton] at hk
    subst hk
    exact ⟨List.length_replicate, by simp, .inl rfl⟩⟩
  | m + 1, h => by
    have ih := layC_ok Q (m := m) (by omega)
    unfold layC at ih ⊢
    rw [List.range_succ, List.foldl_append, List.foldl_cons, List.foldl_nil]
    exact cs4_ok Q (by omega) ih
end
def cD (c : List Nat) : D := .tup (c.map nD)
section
variable {s : List Int} {ks : List Plug}
abbrev acQ (s : List Int) (ks : List Plug) (L0 : List LK) (x3 x4 x5 x6 x7 x8 x9 x10 x11 : Option SV) : Rho := [some (SV.val (stripD s)), some (SV.val (plugsD ks)), some (SV.val (.dcN (kD L0))), x3, x4, x5, x6, x7, x8, x9, x10, x11]
theorem ac_bd1 (Q : KsOk s ks) {L0 L : List LK} {n i N : Nat} {p : Plug} {k : LK} {t : Bool} {pre : Om} {x10 x11 : Option SV} (hn : n < s.length) (hi : i < k.1.length) (hk : k.1.length ≤ 3) (O : CkOk ks.length N L) (h9 : N ≤ 9) :
    ∃ y10 y11, bd_all_counts_1 (acQ s ks L0 (iV n) (some (.own pre.length)) (some (.val (cD k.1))) (iV k.2) (iV i) (some (.val (encP p))) (some (.val (.bl t))) x10 x11) (pre ++ [some (.dcN (kD L))]) =
      .next (acQ s ks L0 (iV n) (some (.own pre.length)) (some (.val (cD k.1))) (iV k.2) (iV i) (some (.val (encP p))) (some (.val (.bl t))) y10 y11) (pre ++ [some (.dcN (kD (cs1 s n k i p L t)))]) := by
  have eb : F_body [stripD s, encP p, .tup [.int (n : Int), .bl t]] = some (.ok (.tup [.int (bBeg s p (n, t)), .int (bEnd s p (n, t))])) := body_run (pl := (n, t)) hn
  have c1 : slD none (some (i : Int)) (cD k.1) = some (.tup ((k.1.map nD).take i)) := cut_lo _ _
  have c2 : slD (some ((i : Int) + 1)) none (cD k.1) = some (.tup ((k.1.map nD).drop (i + 1))) := cut_hi _ _
  have e1 : opIx (cD k.1) (.int (i : Int)) = some (.int ((k.1.getD i 0 : Nat) : Int)) := by
    unfold cD
    rw [opIx_tup]
    exact atI_map nD (by rw [List.getD_eq_getElem?_getD, List.getElem?_eq_getElem hi]; rfl)
  have hkey : D.tup [.tup ((k.1.map nD).take i ++ D.int ((k.1.getD i 0 : Nat) + 1 : Int) :: (k.1.map nD).drop (i + 1)), .int (bEnd s p (n, t))] = keyD (incC k.1 i, bEnd s p (n, t)) := by
    unfold keyD incC
    rw [List.map_append, List.map_cons, List.map_take, List.map_drop]
    rfl
  have L1 : (((k.1.map nD).take i).map SV.val ++ SV.val (D.int ((k.1.getD i 0 : Nat) + 1 : Int)) :: ((k.1.map nD).drop (i + 1)).map SV.val).length ≤ lim := by
    simp only [List.length_append, List.length_map, List.length_take, List.length_cons, List.length_drop, List.length_nil]
    show _ ≤ 16777216
    omega
  have i1 : itSeq (.tup ((k.1.map nD).take i)) = some ((k.1.map nD).take i) := rfl
  have i2 : itSeq (.tup ((k.1.map nD).drop (i + 1))) = some ((k.1.map nD).drop (i + 1)) := rfl
  cases h1 : decide (k.2 ≤ bBeg s p (n, t)) with
  | false =>
    refine ⟨some (.val (.int (bBeg s p (n, t)))), some (.val (.int (bEnd s p (n, t)))), ?_⟩
    unfold bd_all_counts_1 cs1
    rw [if_neg (of_decide_eq_false h1)]
    push_cast [acQ, iV, gT2_run, eb, h1]
  | true =>
    refine ⟨some (.val (.int (bBeg s p (n, t)))), some (.val (.int (bEnd s p (n, t)))), ?_⟩
    unfold bd_all_counts_1 cs1
    rw [if_pos (of_decide_eq_true h1)]
    generalize hT1 : (k.1.map nD).take i = T1 at c1 hkey L1 i1
    generalize hT2 : (k.1.map nD).drop (i + 1) = T2 at c2 hkey L1 i2
    have aV : allD (T2.map SV.val) = some T2 := by
      have := allD_app (ds := T2) (xs := [])
      rw [List.append_nil, allD_nil, Option.map_some, List.append_nil] at this
      exact this
    push_cast [acQ, iV, gT2_run, eb, h1, c1, c2, e1, i1, i2, allD_app, aV, tupR_run L1, List.append_nil, hkey, app_get', app_set, nPutR_run (isKey_key _) (O.lt Q.m1 Q.m3 h9), dnPut_k]
theorem ac_bd2 (Q : KsOk s ks) {L0 L : List LK} {n N : Nat} {z : Nat × Plug} {k : LK} {pre : Om} {x9 x10 x11 : Option SV} (hn : n < s.length) (hz : z ∈ ks.mapIdx fun i p => (i, p)) (hk : k.1.length = ks.length) (hs : k.1.sum < N) (O : CkOk ks.length N L) (h9 : N ≤ 9) :
    ∃ y9 y10 y11, bd_all_counts_2 (acQ s ks L0 (iV n) (some (.own pre.length)) (some (.val (cD k.1))) (iV k.2) (iV z.1) (some (.val (encP z.2))) x9 x10 x11) (pre ++ [some (.dcN (kD L))]) =
      .next (acQ s ks L0 (iV n) (some (.own pre.length)) (some (.val (cD k.1))) (iV k.2) (iV z.1) (some (.val (encP z.2))) y9 y10 y11) (pre ++ [some (.dcN (kD (cs2 s n k L z)))]) := by
  have hz' := mem_idx hz
  have hm := Q.m3
  obtain ⟨ρ', ω', e, O', y9, y10, y11, rfl, rfl⟩ := forL_fold (tg := gN 9) (b := bd_all_counts_1) D.bl (cs1 s n k z.1 z.2) (fun L ρ ω => CkOk ks.length N L ∧ ∃ x9 x10 x11, ρ = acQ s ks L0 (iV n) (some (.own pre.length)) (some (.val (cD k.1))) (iV k.2) (iV z.1) (some (.val (encP z.2))) x9 x10 x11 ∧ ω = pre ++ [some (.dcN (kD L))])
    (standsB z.2) L (acQ s ks L0 (iV n) (some (.own pre.length)) (some (.val (cD k.1))) (iV k.2) (iV z.1) (some (.val (encP z.2))) x9 x10 x11) (pre ++ [some (.dcN (kD L))]) ⟨O, x9, x10, x11, rfl, rfl⟩ (by
    rintro L t ρ ω _ ⟨O, x9, x10, x11, rfl, rfl⟩
    obtain ⟨y10, y11, e⟩ := ac_bd1 Q (L0 := L0) (p := z.2) (t := t) (k := k) (pre := pre) (x10 := x10) (x11 := x11) hn (show z.1 < k.1.length by omega) (by omega) O h9
    exact ⟨_, _, _, rfl, e, cs1_ok Q hn (Q.pl _ (List.mem_of_getElem? hz'.2)) hz'.1 hk hs O, _, _, _, rfl, rfl⟩)
  refine ⟨y9, y10, y11, ?_⟩
  unfold bd_all_counts_2
  push_cast [acQ, iV, stands_run, stands_map]
  exact e
theorem ac_bd3 (Q : KsOk s ks) {L0 L : List LK} {n N : Nat} {k : LK} {pre : Om} {x7 x8 x9 x10 x11 : Option SV} (hn : n < s.length) (hk : k.1.length = ks.length) (hs : k.1.sum < N) (O : CkOk ks.length N L) (h9 : N ≤ 9) :
    ∃ y7 y8 y9 y10 y11, bd_all_counts_3 (acQ s ks L0 (iV n) (some (.own pre.length)) (some (.val (cD k.1))) (iV k.2) x7 x8 x9 x10 x11) (pre ++ [some (.dcN (kD L))]) =
      .next (acQ s ks L0 (iV n) (some (.own pre.length)) (some (.val (cD k.1))) (iV k.2) y7 y8 y9 y10 y11) (pre ++ [some (.dcN (kD (cs3 s n ks L k)))]) := by
  obtain ⟨ρ', ω', e, O', y7, y8, y9, y10, y11, rfl, rfl⟩ := forL_fold (tg := gT 2 (gsCons (gN 7) (gsCons (gN 8) gsNil))) (b := bd_all_counts_2) (fun z : Nat × Plug => D.tup [.int (z.1 : Int), encP z.2]) (cs2 s n k) (fun L ρ ω => CkOk ks.length N L ∧ ∃ x7 x8 x9 x10 x11, ρ = acQ s ks L0 (iV n) (some (.own pre.length)) (some (.val (cD k.1))) (iV k.2) x7 x8 x9 x10 x11 ∧ ω = pre ++ [some (.dcN (kD L))])
    (ks.mapIdx fun i p => (i, p)) L (acQ s ks L0 (iV n) (some (.own pre.length)) (some (.val (cD k.1))) (iV k.2) x7 x8 x9 x10 x11) (pre ++ [some (.dcN (kD L))]) ⟨O, x7, x8, x9, x10, x11, rfl, rfl⟩ (by
    rintro L z ρ ω hz ⟨O, x7, x8, x9, x10, x11, rfl, rfl⟩
    obtain ⟨y9, y10, y11, e⟩ := ac_bd2 Q (L0 := L0) (k := k) (pre := pre) (x9 := x9) (x10 := x10) (x11 := x11) hn hz hk hs O h9
    exact ⟨_, _, _, rfl, e, cs2_ok Q hn hz hk hs O, _, _, _, _, _, rfl, rfl⟩)
  refine ⟨y7, y8, y9, y10, y11, ?_⟩
  have ie : itEn (plugsD ks) = some ((ks.mapIdx fun i p => (i, p)).map fun z : Nat × Plug => D.tup [.int (z.1 : Int), encP z.2]) := by
    show some (enumD _) = _
    rw [enum_zero]
    congr 1
    apply List.ext_getElem
    · simp
    · intro i h1 h2
      simp
      rfl
  unfold bd_all_counts_3
  push_cast [acQ, iV, ie]
  exact e
theorem ac_bd4 (Q : KsOk s ks) {L : List LK} {n : Nat} {pre : Om} {x4 x5 x6 x7 x8 x9 x10 x11 : Option SV} (hn : n < s.length) (O : CkOk ks.length n L) :
    ∃ y4 y5 y6 y7 y8 y9 y10 y11, bd_all_counts_4 (acQ s ks L (iV n) x4 x5 x6 x7 x8 x9 x10 x11) pre = .next (acQ s ks (cs4 s ks L n) (iV n) y4 y5 y6 y7 y8 y9 y10 y11) (pre ++ [none]) := by
  have h9 := Q.s9
  obtain ⟨ρ', ω', e, O', y5, y6, y7, y8, y9, y10, y11, rfl, rfl⟩ := forL_fold (tg := gT 2 (gsCons (gN 5) (gsCons (gN 6) gsNil))) (b := bd_all_counts_3) keyD (cs3 s n ks) (fun L' ρ ω => CkOk ks.length (n + 1) L' ∧ ∃ x5 x6 x7 x8 x9 x10 x11, ρ = acQ s ks L (iV n) (some (.own pre.length)) x5 x6 x7 x8 x9 x10 x11 ∧ ω = pre ++ [some (.dcN (kD L'))])
    L L (acQ s ks L (iV n) (some (.own pre.length)) x5 x6 x7 x8 x9 x10 x11) (pre ++ [some (.dcN (kD L))]) ⟨O.mono (by omega), x5, x6, x7, x8, x9, x10, x11, rfl, rfl⟩ (by
    rintro L' k ρ ω hk ⟨O', x5, x6, x7, x8, x9, x10, x11, rfl, rfl⟩
    have h := O.ok k hk
    obtain ⟨y7, y8, y9, y10, y11, e⟩ := ac_bd3 Q (L0 := L) (k := k) (pre := pre) (x7 := x7) (x8 := x8) (x9 := x9) (x10 := x10) (x11 := x11) hn h.1 (show k.1.sum < n + 1 by omega) O' (by omega)
    exact ⟨_, _, _, rfl, e, cs3_ok Q hn h.1 (by omega) O', _, _, _, _, _, _, _, rfl, rfl⟩)
  refine ⟨some (.val (.dcN (kD (cs4 s ks L n)))), y5, y6, y7, y8, y9, y10, y11, ?_⟩
  have hit : (kD L).map (·.1) = L.map keyD := by unfold kD; rw [List.map_map]; rfl
  unfold bd_all_counts_4
  push_cast [acQ, iV, copyN_run (O.hash Q.m1 Q.m3 (by omega)), itNKeys_run, hit]
  have e' := e
  simp only [acQ, iV] at e'
  rw [e']
  push_cast []
  rw [sGf_own rfl (app_get' _ _), app_set]
  rfl
def putC (acc : List (List Nat)) (c : List Nat) : List (List Nat) := if c ∈ acc then acc else acc ++ [c]
def ctD (A : List (List Nat)) : KVs := A.map fun c => (cD c, .bl true)
theorem cD_inj {a b : List Nat} (h : nk (cD a) = nk (cD b)) : a = b := by
  have e : ∀ c : List Nat, nk (cD c) = nkL c := fun c => by unfold cD nkL; rw [nk, nks_nD]
  rw [e, e] at h
  exact nkL_inj h
theorem isKey_cD (c : List Nat) : isKey (cD c) = true := by
  have : ∀ l : List Nat, keyOk.keyOks 7 (l.map nD) = true := fun l => by
    induction l with
    | nil => rfl
    | cons a l ih => rw [List.map_cons, keyOk.keyOks, ih]; rfl
  exact this c
theorem dnGet_c {A : List (List Nat)} {c : List Nat} : dnGet (ctD A) (nk (cD c)) = if c ∈ A then some (.bl true) else none := by
  unfold dnGet ctD
  induction A with
  | nil => rfl
  | cons x L ih =>
    rw [List.map_cons, List.find?_cons]
    by_cases h : x = c
    · subst h
      rw [if_pos List.mem_cons_self]
      simp
    · have hn : ¬ nk (cD x) = nk (cD c) := fun e => h (cD_inj e)
      rw [decide_eq_false hn]
      dsimp only
      rw [ih]
      by_cases hk : c ∈ L
      · rw [if_pos hk, if_pos (List.mem_cons_of_mem _ hk)]
      · rw [if_neg hk, if_neg fun z => (List.mem_cons.mp z).elim (fun e => h e.symm) hk]
theorem dnPut_c {A : List (List Nat)} {c : List Nat} : dnPut (ctD A) (cD c) (.bl true) = ctD (putC A c) := by
  unfold dnPut putC
  rw [dnGet_c]
  by_cases h : c ∈ A
  · rw [if_pos h, if_pos h, if_pos (show (some (D.bl true)).isSome = true from rfl)]
    unfold ctD
    rw [List.map_map]
    apply List.map_congr_left
    intro x _
    dsimp only [Function.comp]
    exact ite_self _
  · rw [if_neg h, if_neg h, if_neg (by simp)]
    unfold ctD
    rw [List.map_append]
    rfl
theorem eDcN_run {ρ : Rho} {ω : Om} (vs) (it : FE (List D)) (tg) (tt) (fk fv : FE D) : eDcN vs it tg tt fk fv ρ ω = bindL (it ρ ω) (k := ⟨fun ds ω1 => dcnL tg tt fk fv (wipeR ρ vs) ds [] ω1⟩) := rfl
theorem cnts_eq : cnts s ks = ((layC s ks s.length).map (·.1)).foldl putC [] := by
  unfold cnts
  rw [List.foldl_map]
  rfl
theorem dcnL_all {ρ : Rho} {ω : Om} {tg : FG} {fk : FE D} : ∀ (L : List LK) (A : List (List Nat)), A.length + L.length ≤ 1000000 →
    (∀ k ∈ L, ∃ ρ1, tg (keyD k) ρ = some ρ1 ∧ fk ρ1 ω = .ok (cD k.1) ω) → dcnL tg eTrue fk (eC (.bl true)) ρ (L.map keyD) (ctD A) ω = .ok (.dcN (ctD ((L.map (·.1)).foldl putC A))) ω
  | [], A, _, _ => rfl
  | k :: L, A, hl, h => by
    obtain ⟨ρ1, h1, h2⟩ := h k List.mem_cons_self
    rw [List.length_cons] at hl
    rw [List.map_cons, List.map_cons, List.foldl_cons]
    have hA : (putC A k.1).length ≤ A.length + 1 := by
      unfold putC
      split
      · omega
      · rw [List.length_append]; exact Nat.le_refl _
    have ih := dcnL_all L (putC A k.1) (by omega) fun k hk => h k (List.mem_cons_of_mem _ hk)
    unfold dcnL
    rw [h1]
    dsimp only
    rw [show eTrue ρ1 ω = .ok true ω from rfl]
    dsimp only
    rw [h2]
    dsimp only
    rw [show (eC (.bl true)) ρ1 ω = .ok (.bl true) ω from rfl]
    dsimp only
    rw [if_pos ⟨isKey_cD _, by unfold ctD; rw [List.length_map]; show _ < 16777216; omega⟩, dnPut_c]
    exact ih
theorem putC_mem {A : List (List Nat)} {c x : List Nat} : x ∈ putC A c ↔ x ∈ A ∨ x = c := by
  unfold putC
  split
  · rename_i h
    exact ⟨.inl, fun z => z.elim id fun e => e ▸ h⟩
  · rw [List.mem_append, List.mem_singleton]
theorem foldC_mem : ∀ {l A : List (List Nat)} {x : List Nat}, x ∈ l.foldl putC A ↔ x ∈ A ∨ x ∈ l
  | [], A, x => by simp
  | c :: l, A, x => by rw [List.foldl_cons, foldC_mem, putC_mem, List.mem_cons, or_assoc]
theorem putC_nodup {A : List (List Nat)} {c : List Nat} (h : A.Nodup) : (putC A c).Nodup := by
  unfold putC
  split
  · exact h
  · rename_i hk
    exact List.nodup_append.mpr ⟨h, List.pairwise_singleton _ _, fun x hx y hy e => hk (by rw [List.mem_singleton] at hy; rw [← hy, ← e]; exact hx)⟩
theorem foldC_nodup : ∀ {l A : List (List Nat)}, A.Nodup → (l.foldl putC A).Nodup
  | [], A, h => h
  | c :: l, A, h => foldC_nodup (l := l) (putC_nodup h)
theorem cnts_nodup : (cnts s ks).Nodup := by rw [cnts_eq]; exact foldC_nodup List.nodup_nil
theorem cnts_mem {c : List Nat} : c ∈ cnts s ks ↔ ∃ k ∈ layC s ks s.length, k.1 = c := by
  rw [cnts_eq, foldC_mem, List.mem_map]
  simp
theorem cnts_ok (Q : KsOk s ks) {c : List Nat} (h : c ∈ cnts s ks) : c.length = ks.length ∧ c.sum ≤ s.length := by
  obtain ⟨k, hk, rfl⟩ := cnts_mem.mp h
  have := (layC_ok Q (Nat.le_refl _)).ok k hk
  exact ⟨this.1, this.2.1⟩
theorem layC_succ {m : Nat} : layC s ks (m + 1) = cs4 s ks (layC s ks m) m := by
  unfold layC
  rw [List.range_succ, List.foldl_append, List.foldl_cons, List.foldl_nil]
theorem all_counts_run (Q : KsOk s ks) : F_all_counts [stripD s, plugsD ks] = some (.ok (.dcN (ctD (cnts s ks)))) := by
  have h9 := Q.s9
  have h3 := Q.m3
  have h1 := Q.m1
  have i1 : itR1 (.int (s.length : Int)) = some (rngD 0 (s.length : Int)) := itR1_run (by omega) (by omega)
  obtain ⟨ρ', ω', e, y3, y4, y5, y6, y7, y8, y9, y10, y11, rfl⟩ := forL_all (tg := gN 3) (b := bd_all_counts_4) (ds := rngD 0 (s.length : Int)) (ω := []) (ρ := acQ s ks (layC s ks 0) none none none none none none none none none)
    (fun m ρ ω => ∃ x3 x4 x5 x6 x7 x8 x9 x10 x11, ρ = acQ s ks (layC s ks m) x3 x4 x5 x6 x7 x8 x9 x10 x11)
    ⟨none, none, none, none, none, none, none, none, none, rfl⟩ (by
    rintro m d ρ ω hd ⟨x3, x4, x5, x6, x7, x8, x9, x10, x11, rfl⟩
    obtain ⟨rfl, hlt⟩ := rngD_get hd
    rw [show (0 : Int) + (m : Int) = (m : Int) by omega, layC_succ]
    have hm : m < s.length := by omega
    obtain ⟨y4, y5, y6, y7, y8, y9, y10, y11, e⟩ := ac_bd4 Q (n := m) (pre := ω) (x4 := x4) (x5 := x5) (x6 := x6) (x7 := x7) (x8 := x8) (x9 := x9) (x10 := x10) (x11 := x11) hm (layC_ok Q (by omega))
    exact ⟨_, _, _, rfl, e, _, _, _, _, _, _, _, _, _, rfl⟩)
  have hlen : (rngD 0 (s.length : Int)).length = s.length := by rw [rngD_len]; omega
  rw [hlen] at e
  have O := layC_ok Q (Nat.le_refl s.length)
  have hll := O.len h1 h3 h9
  have hit : (kD (layC s ks s.length)).map (·.1) = (layC s ks s.length).map keyD := by unfold kD; rw [List.map_map]; rfl
  have lc : ∀ ω : Om, lc_all_counts_5 (acQ s ks (layC s ks s.length) y3 y4 y5 y6 y7 y8 y9 y10 y11) ω = .ok (.dcN (ctD (cnts s ks))) ω := fun ω => by
    unfold lc_all_counts_5
    rw [eDcN_run]
    push_cast [acQ, itNKeys_run, hit]
    have := dcnL_all (ρ := acQ s ks (layC s ks s.length) y3 y4 none none y7 y8 y9 y10 y11) (ω := ω) (tg := gT 2 (gsCons (gN 5) (gsCons (gN 6) gsNil))) (fk := eVar 5) (layC s ks s.length) [] (by rw [List.length_nil]; omega) (fun k hk => ⟨_, rfl, rfl⟩)
    rw [cnts_eq]
    exact this
  have m1 : opMulA (.tup [.int 0]) (.int (ks.length : Int)) = some (.tup ((List.replicate ks.length 0).map nD)) := by
    have : ks.length = 1 ∨ ks.length = 2 ∨ ks.length = 3 := by omega
    rcases this with h | h | h <;> rw [h] <;> rfl
  have e0 : D.tup [.tup ((List.replicate ks.length 0).map nD), .int (-1000)] = keyD (List.replicate ks.length 0, -1000) := rfl
  have k0 : kD (layC s ks 0) = [(keyD (List.replicate ks.length 0, -1000), .bl true)] := rfl
  unfold F_all_counts
  rw [fnP_run (by rfl)]
  unfold f_all_counts
  simp only [acQ] at e lc
  rw [k0] at e
  generalize hz : (List.replicate ks.length 0).map nD = Z at m1 e0
  generalize hK : keyD (List.replicate ks.length 0, -1000) = K0 at e e0
  have ik : isKey K0 = true := by rw [← hK]; exact isKey_key _
  push_cast [len_plugs, m1, e0, ik, fld_rows, len_socks, i1, e, lc]
end
def ltN : List Nat → List Nat → Bool
  | [], [] => false
  | [], _ :: _ => true
  | _ :: _, [] => false
  | x :: a, y :: b => if x = y then ltN a b else decide (x < y)
def leN (a b : List Nat) : Bool := !ltN b a
abbrev pyN (l : List Nat) : List PyData := l.map fun (i : Nat) => PyData.int (i : Int)
def tD (l : List Nat) : D := .tup (l.map nD)
theorem lex_nD : ∀ a b : List Nat, PyProof.Rows.lexLt PyProof.Rows.itemOrd (PySem.W.keyToksAll (pyN a)) (PySem.W.keyToksAll (pyN b)) = ltN a b
  | [], [] => PyProof.Rows.lex_irrefl _
  | [], y :: b => by
    show PyProof.Rows.lexLt PyProof.Rows.itemOrd (PySem.W.keyToksAll []) (PySem.W.keyToksAll (.int (y : Int) :: pyN b)) = true
    rw [PySem.W.toks_all_cons, PySem.W.keyToksAll, PyProof.Rows.lex_diff (by intro h; injection h with h; cases h)]
    rfl
  | x :: a, [] => by
    show PyProof.Rows.lexLt PyProof.Rows.itemOrd (PySem.W.keyToksAll (.int (x : Int) :: pyN a)) (PySem.W.keyToksAll []) = false
    rw [PySem.W.toks_all_cons, PySem.W.keyToksAll, PyProof.Rows.lex_diff (by intro h; injection h with h; cases h)]
    rfl
  | x :: a, y :: b => by
    show PyProof.Rows.lexLt PyProof.Rows.itemOrd (PySem.W.keyToksAll (.int (x : Int) :: pyN a)) (PySem.W.keyToksAll (.int (y : Int) :: pyN b)) = _
    rw [PySem.W.dataLt_cons (by simp [PySem.W.alike]), lex_nD a b, PyData.eqv, PySem.W.dataLt_int]
    conv => rhs; unfold ltN
    by_cases h : x = y
    · rw [if_pos h, if_pos (by rw [h]; exact beq_self_eq_true _)]
    · rw [if_neg h, if_neg (by rw [beq_iff_eq]; omega)]
      by_cases z : x < y
      · rw [decide_eq_true z, decide_eq_true (by omega)]
      · rw [decide_eq_false z, decide_eq_false (by omega)]
theorem lt_pyN (a b : List Nat) : PySem.W.dataLt (.tuple (pyN a)) (.tuple (pyN b)) = ltN a b := by rw [PySem.W.dataLt_tuple, lex_nD]
theorem toPy_tD (l : List Nat) : toPy (tD l) = some (.tuple (pyN l)) := by unfold tD; rw [toPy, toPys_nD]; rfl
theorem toPys_tD : ∀ l : List (List Nat), toPys (l.map tD) = some (l.map fun a => .tuple (pyN a))
  | [] => rfl
  | a :: l => by rw [List.map_cons, toPys, toPy_tD, toPys_tD l]; rfl
theorem alike_tD (l : List (List Nat)) : alikeP (l.map fun a => .tuple (pyN a)) = true := by
  have h : ∀ a b : List Nat, PySem.W.alikeAll (pyN a) (pyN b) = true := fun a => by
    induction a with
    | nil => intro b; show PySem.W.alikeAll [] _ = true; unfold PySem.W.alikeAll; rfl
    | cons x a ih =>
      intro b
      cases b with
      | nil => show PySem.W.alikeAll (_ :: _) [] = true; unfold PySem.W.alikeAll; rfl
      | cons y b => show PySem.W.alikeAll (.int (x : Int) :: pyN a) (.int (y : Int) :: pyN b) = true; rw [PySem.W.alikeAll, ih b]; rfl
  unfold alikeP
  rw [List.all_map, List.all_eq_true]
  intro a _
  dsimp only [Function.comp]
  rw [List.all_map, List.all_eq_true]
  intro b _
  dsimp only [Function.comp]
  rw [PySem.W.alike]
  exact h a b
theorem depth_tD (l : List (List Nat)) : PyData.depthAll (l.map fun a => .tuple (pyN a)) ≤ 2 := by
  induction l with
  | nil => rw [List.map_nil]; decide
  | cons a l ih =>
    rw [List.map_cons, PyData.depthAll, PyData.depth]
    have : PyData.depthAll (pyN a) ≤ 1 := (lay_nD a).2
    omega
theorem srt_tD (l : List (List Nat)) : srt (l.map tD) (l.map fun a => PyData.tuple (pyN a)) = (l.mergeSort leN).map tD := by
  unfold srt
  rw [List.zip_map', ← List.map_mergeSort (r := leN), List.map_map]
  · rfl
  · intro a _ b _
    show _ = PySem.W.dataLe false (fun b : D × PyData => b.2) (tD a, .tuple (pyN a)) (tD b, .tuple (pyN b))
    rw [PySem.W.dataLe_eq]
    dsimp only
    rw [cond_false, lt_pyN]
    rfl
theorem sortL_tD {l : List (List Nat)} (h : ∀ a ∈ l, a ≠ []) : oSortL (l.map tD) = some (.lst ((l.mergeSort leN).map tD)) := by
  unfold oSortL
  rw [toPys_tD]
  dsimp only
  have hs : sortB (l.map fun a => PyData.tuple (pyN a)) = true := by
    unfold sortB
    refine Bool.or_eq_true_iff.mpr (.inl ?_)
    rw [List.all_map, List.all_eq_true]
    intro a ha
    cases a with
    | nil => exact absurd rfl (h [] ha)
    | cons x a => rfl
  rw [if_pos ⟨alike_tD l, hs, by have := depth_tD l; omega⟩, srt_tD]
theorem ltN_asymm : ∀ {a b : List Nat}, ltN a b = true → ltN b a = false
  | [], [], h => by cases h
  | [], y :: b, _ => rfl
  | x :: a, [], h => by cases h
  | x :: a, y :: b, h => by
    unfold ltN at h ⊢
    by_cases e : x = y
    · rw [if_pos e] at h; rw [if_pos e.symm]; exact ltN_asymm h
    · rw [if_neg e] at h
      rw [if_neg fun z => e z.symm]
      have := of_decide_eq_true h
      exact decide_eq_false (by omega)
theorem ltN_tri : ∀ {a b : List Nat}, ltN a b = false → ltN b a = false → a = b
  | [], [], _, _ => rfl
  | [], y :: b, h, _ => by cases h
  | x :: a, [], _, h => by cases h
  | x :: a, y :: b, h1, h2 => by
    unfold ltN at h1 h2
    by_cases e : x = y
    · rw [if_pos e] at h1; rw [if_pos e.symm] at h2; rw [e, ltN_tri h1 h2]
    · rw [if_neg e] at h1
      rw [if_neg fun z => e z.symm] at h2
      have := of_decide_eq_false h1
      have := of_decide_eq_false h2
      omega
theorem ltN_trans : ∀ {a b c : List Nat}, ltN a b = true → ltN b c = true → ltN a c = true
  | [], [], [], h1, _ => by cases h1
  | [], y :: b, [], _, h2 => by cases h2
  | [], _, _ :: _, _, _ => rfl
  | x :: a, [], _, h1, _ => by cases h1
  | x :: a, y :: b, [], _, h2 => by cases h2
  | x :: a, y :: b, z :: c, h1, h2 => by
    unfold ltN at h1 h2 ⊢
    by_cases e1 : x = y
    · rw [if_pos e1] at h1
      by_cases e2 : y = z
      · rw [if_pos e2] at h2; rw [if_pos (e1.trans e2)]; exact ltN_trans h1 h2
      · rw [if_neg e2] at h2; rw [e1, if_neg e2]; exact h2
    · rw [if_neg e1] at h1
      have l1 := of_decide_eq_true h1
      by_cases e2 : y = z
      · rw [← e2, if_neg e1]; exact h1
      · rw [if_neg e2] at h2
        have l2 := of_decide_eq_true h2
        rw [if_neg (by omega)]
        exact decide_eq_true (by omega)
theorem leN_trans (a b c : List Nat) (h1 : leN a b = true) (h2 : leN b c = true) : leN a c = true := by
  unfold leN at *
  rw [Bool.not_eq_true'] at *
  cases h : ltN c a with
  | false => rfl
  | true =>
    cases q : ltN a b with
    | true => rw [ltN_trans h q] at h2; cases h2
    | false => rw [ltN_tri q h1] at h; rw [h] at h2; cases h2
theorem leN_total (a b : List Nat) : (leN a b || leN b a) = true := by
  unfold leN
  cases h : ltN b a with
  | false => rfl
  | true => rw [ltN_asymm h]; rfl
theorem sort_eq {l m : List (List Nat)} (p : l.Perm m) (h : m.Pairwise fun a b => leN a b = true) : l.mergeSort leN = m := by
  refine List.Perm.eq_of_pairwise (le := fun a b => leN a b = true) (fun a b _ _ h1 h2 => ?_) (List.pairwise_mergeSort leN_trans leN_total l) h ((List.mergeSort_perm l leN).trans p)
  unfold leN at h1 h2
  rw [Bool.not_eq_true'] at h1 h2
  exact ltN_tri h2 h1
section
variable {n : Nat} (fit : List Nat → Bool)
variable {fit}
end
section
variable {s : List Int} {ps : List Plug}
end
section
variable {s : List Int} {ps : List Plug}
end
section
variable {s : List Int} {ps : List Plug}
end
theorem eqv_pyN : ∀ a b : List Nat, PyData.eqvAll (pyN a) (pyN b) = decide (a = b)
  | [], [] => by rw [decide_eq_true rfl]; simp [PyData.eqvAll]
  | [], y :: b => by rw [decide_eq_false (List.cons_ne_nil _ _).symm]; simp [PyData.eqvAll]
  | x :: a, [] => by rw [decide_eq_false (List.cons_ne_nil _ _)]; simp [PyData.eqvAll]
  | x :: a, y :: b => by
    show PyData.eqvAll (.int (x : Int) :: pyN a) (.int (y : Int) :: pyN b) = _
    rw [PyData.eqvAll, eqv_pyN a b, PyData.eqv]
    by_cases h1 : x = y <;> by_cases h2 : a = b <;> simp [h1, h2]
    omega
theorem inD_tD {neg : Bool} {a : List Nat} {l : List (List Nat)} : opInD neg (tD a) (.lst (l.map tD)) = some (.bl (if neg then !decide (a ∈ l) else decide (a ∈ l))) := by
  have e1 : toPy (.lst (l.map tD)) = some (.list (l.map fun a => .tuple (pyN a))) := by rw [toPy, toPys_tD]; rfl
  have pl : ∀ a : List Nat, PyData.plainAll (pyN a) = true := fun a => by
    induction a with
    | nil => rfl
    | cons x a ih => show PyData.plainAll (.int (x : Int) :: pyN a) = true; rw [PyData.plainAll, ih]; rfl
  have pls : PyData.plainAll (l.map fun a => .tuple (pyN a)) = true := by
    induction l with
    | nil => rfl
    | cons x l ih => rw [List.map_cons, PyData.plainAll, ih (by rw [toPy, toPys_tD]; rfl), PyData.plain, pl]; rfl
  have hok : okIn (.tuple (pyN a)) (l.map fun a => .tuple (pyN a)) = true := by
    unfold okIn
    rw [pls, PyData.plain, pl, decide_eq_true (show PyData.depthAll (l.map fun a => PyData.tuple (pyN a)) ≤ 50 by have := depth_tD l; omega)]
    rfl
  have hin : ((l.map fun a => PyData.tuple (pyN a)).any fun y => PyData.eqv y (.tuple (pyN a))) = decide (a ∈ l) := by
    rw [List.any_map]
    have : ∀ b : List Nat, ((fun y => PyData.eqv y (.tuple (pyN a))) ∘ fun a => PyData.tuple (pyN a)) b = decide (b = a) := fun b => by
      show PyData.eqv (.tuple (pyN b)) (.tuple (pyN a)) = _
      rw [PyData.eqv, eqv_pyN]
    rw [show l.any ((fun y => PyData.eqv y (.tuple (pyN a))) ∘ fun a => PyData.tuple (pyN a)) = l.any fun b => decide (b = a) from by congr 1; funext b; exact this b]
    rw [Bool.eq_iff_iff, List.any_eq_true, decide_eq_true_eq]
    constructor
    · rintro ⟨b, hb, h⟩
      rw [← of_decide_eq_true h]; exact hb
    · intro h
      exact ⟨a, h, decide_eq_true rfl⟩
  unfold opInD
  rw [toPy_tD, e1]
  dsimp only [Option.bind, seqP]
  rw [if_pos hok]
  unfold inP
  rw [hin]
section
variable {s : List Int} {ps : List Plug} {ns : List Int}
end
structure Sto {α : Type} (lt : α → α → Bool) : Prop where
  irr : ∀ a, lt a a = false
  trans : ∀ a b c, lt a b = true → lt b c = true → lt a c = true
  tri : ∀ a b, lt a b = false → lt b a = false → a = b
theorem Sto.le_trans {α : Type} {lt : α → α → Bool} (h : Sto lt) {a b c : α} (x : lt b a = false) (y : lt c b = false) : lt c a = false := by
  cases q : lt c a with
  | false => rfl
  | true =>
    cases r : lt a b with
    | true => rw [h.trans c a b q r] at y; cases y
    | false => rw [h.tri a b r x] at q; rw [q] at y; cases y
theorem sto_int : Sto fun a b : Int => decide (a < b) :=
  ⟨fun a => decide_eq_false (by omega), fun a b c h1 h2 => by have := of_decide_eq_true h1; have := of_decide_eq_true h2; exact decide_eq_true (by omega), fun a b h1 h2 => by have := of_decide_eq_false h1; have := of_decide_eq_false h2; omega⟩
theorem sto_nat : Sto fun a b : Nat => decide (a < b) :=
  ⟨fun a => decide_eq_false (by omega), fun a b c h1 h2 => by have := of_decide_eq_true h1; have := of_decide_eq_true h2; exact decide_eq_true (by omega), fun a b h1 h2 => by have := of_decide_eq_false h1; have := of_decide_eq_false h2; omega⟩
theorem sto_bool : Sto fun a b : Bool => !a && b := ⟨by decide, by decide, by decide⟩
def lexP {α β : Type} [DecidableEq α] (l : α → α → Bool) (m : β → β → Bool) (a b : α × β) : Bool := if a.1 = b.1 then m a.2 b.2 else l a.1 b.1
theorem sto_pair {α β : Type} [DecidableEq α] {l : α → α → Bool} {m : β → β → Bool} (hl : Sto l) (hm : Sto m) : Sto (lexP l m) := by
  refine ⟨fun a => ?_, fun a b c h1 h2 => ?_, fun a b h1 h2 => ?_⟩
  · unfold lexP; rw [if_pos rfl]; exact hm.irr _
  · unfold lexP at *
    by_cases e1 : a.1 = b.1
    · rw [if_pos e1] at h1
      by_cases e2 : b.1 = c.1
      · rw [if_pos e2] at h2; rw [if_pos (e1.trans e2)]; exact hm.trans _ _ _ h1 h2
      · rw [if_neg e2] at h2; rw [e1, if_neg e2]; exact h2
    · rw [if_neg e1] at h1
      by_cases e2 : b.1 = c.1
      · rw [← e2, if_neg e1]; exact h1
      · rw [if_neg e2] at h2
        have h3 := hl.trans _ _ _ h1 h2
        rw [if_neg fun z => by rw [z, hl.irr] at h3; cases h3]
        exact h3
  · unfold lexP at *
    by_cases e1 : a.1 = b.1
    · rw [if_pos e1] at h1
      rw [if_pos e1.symm] at h2
      exact Prod.ext e1 (hm.tri _ _ h1 h2)
    · rw [if_neg e1] at h1
      rw [if_neg fun z => e1 z.symm] at h2
      exact absurd (hl.tri _ _ h1 h2) e1
def lexL {α : Type} [DecidableEq α] (l : α → α → Bool) : List α → List α → Bool
  | [], [] => false
  | [], _ :: _ => true
  | _ :: _, [] => false
  | x :: a, y :: b => if x = y then lexL l a b else l x y
theorem sto_list {α : Type} [DecidableEq α] {l : α → α → Bool} (hl : Sto l) : Sto (lexL l) := by
  refine ⟨fun a => ?_, fun a => ?_, fun a => ?_⟩
  · induction a with
    | nil => rfl
    | cons x a ih => unfold lexL; rw [if_pos rfl]; exact ih
  · induction a with
    | nil =>
      intro b c h1 h2
      cases b with
      | nil => cases h1
      | cons y b => cases c with
        | nil => cases h2
        | cons z c => rfl
    | cons x a ih =>
      intro b c h1 h2
      cases b with
      | nil => cases h1
      | cons y b =>
        cases c with
        | nil => cases h2
        | cons z c =>
          unfold lexL at h1 h2 ⊢
          by_cases e1 : x = y
          · rw [if_pos e1] at h1
            by_cases e2 : y = z
            · rw [if_pos e2] at h2; rw [if_pos (e1.trans e2)]; exact ih b c h1 h2
            · rw [if_neg e2] at h2; rw [e1, if_neg e2]; exact h2
          · rw [if_neg e1] at h1
            by_cases e2 : y = z
            · rw [← e2, if_neg e1]; exact h1
            · rw [if_neg e2] at h2
              have h3 := hl.trans _ _ _ h1 h2
              rw [if_neg fun q => by rw [q, hl.irr] at h3; cases h3]
              exact h3
  · induction a with
    | nil =>
      intro b h1 h2
      cases b with
      | nil => rfl
      | cons y b => cases h1
    | cons x a ih =>
      intro b h1 h2
      cases b with
      | nil => cases h2
      | cons y b =>
        unfold lexL at h1 h2
        by_cases e1 : x = y
        · rw [if_pos e1] at h1
          rw [if_pos e1.symm] at h2
          rw [e1, ih b h1 h2]
        · rw [if_neg e1] at h1
          rw [if_neg fun z => e1 z.symm] at h2
          exact absurd (hl.tri _ _ h1 h2) e1
section
variable {κ ν : Type} [DecidableEq κ]
abbrev Td (κ ν : Type) := List (κ × ν)
variable {kE : κ → D} {vE : ν → D} {L : Td κ ν} {k k' : κ} {v : ν}
end
section
variable {s : List Int} {ks : List Plug}
theorem in_cnt {neg : Bool} {A : List (List Nat)} {c : List Nat} : opIn2 neg (cD c) (.dcN (ctD A)) = some (.bl (if neg then !decide (c ∈ A) else decide (c ∈ A))) := by
  show (if isKey (cD c) = true then _ else _) = _
  rw [if_pos (isKey_cD c), dnGet_c]
  by_cases h : c ∈ A
  · rw [if_pos h, decide_eq_true h]; rfl
  · rw [if_neg h, decide_eq_false h]; rfl
theorem KsOk.ne (Q : KsOk s ks) : ks ≠ [] := fun z => by have := Q.m1; rw [z] at this; exact absurd this (by decide)
theorem holds_run (Q : KsOk s ks) {c : List Nat} (hc : c.length = ks.length) (h9 : ∀ x ∈ c, x ≤ 9) : F_holds [stripD s, plugsD ks, cD c] = some (.ok (.bl (decide (c ∈ cnts s ks)))) := by
  have c1 := check_plugs_ok2 Q.pl Q.ne (most := 3) (by have := Q.m3; omega)
  have h3 := Q.m3
  have e1 : isiD "tuple" (cD c) = some (.bl true) := isi_tuple_tup _
  have e2 : oLen [cD c] = some (.int (c.length : Int)) := by unfold cD; rw [oLen_tup, List.length_map]
  have e3 : ((c.length : Int) == (ks.length : Int)) = true := by rw [beq_iff_eq]; omega
  have it : itSeq (cD c) = some (c.map nD) := rfl
  have lc : ∀ ω, lc_holds_1 [some (SV.val (stripD s)), some (SV.val (plugsD ks)), some (SV.val (cD c)), none] ω = .ok (.lst (List.replicate (c.map nD).length (D.bl true))) ω := fun ω => by
    unfold lc_holds_1
    push_cast [it]
    refine lcL_true (by rw [List.length_map]; show _ ≤ 16777216; omega) fun d hd => ?_
    obtain ⟨x, hx, rfl⟩ := List.mem_map.mp hd
    refine ⟨_, rfl, ?_⟩
    have f := is_from_run (x : Int) 0 9
    rw [decide_eq_true ⟨by omega, by have := h9 x hx; omega⟩] at f
    push_cast [nD, f]
  have e4 := all_counts_run Q
  have e5 := in_cnt (neg := false) (A := cnts s ks) (c := c)
  generalize hB : decide (c ∈ cnts s ks) = B at e5
  have e5 : opIn2 false (cD c) (.dcN (ctD (cnts s ks))) = some (.bl B) := e5
  unfold F_holds
  rw [fnP_run (by rfl)]
  unfold f_holds
  generalize hC : cD c = C at e1 e2 it lc e5
  generalize hA : D.dcN (ctD (cnts s ks)) = A at e4 e5
  generalize hN : (c.map nD).length = N at lc
  push_cast [c1, e1, e2, len_plugs, e3, lc, oAllL_true, e4, e5]
end
section
variable {s u : List Int} {ks : List Plug}
theorem cnts_len (Q : KsOk s ks) : (cnts s ks).length ≤ 220 := by
  have := sub_len (b := cuv ks.length 9) (cnts_nodup (s := s) (ks := ks)) fun c hc => by
    have := cnts_ok Q hc
    have := Q.s9
    exact mem_cuv (by omega) (by omega)
  have := len_cuv ks.length (mem3 Q.m1 Q.m3)
  omega
end
abbrev Val := Int × List Place
def ltPl : Place → Place → Bool := lexP (fun a b : Nat => decide (a < b)) fun a b : Bool => !a && b
def ltO : List Place → List Place → Bool := lexL ltPl
def ltV : Val → Val → Bool := lexP (fun a b : Int => decide (a < b)) ltO
theorem sto_pl : Sto ltPl := sto_pair sto_nat sto_bool
theorem sto_o : Sto ltO := sto_list sto_pl
theorem sto_v : Sto ltV := sto_pair sto_int sto_o
section
variable (ps : List Plug) (stp : Place → Place → Int) (c0 : Int)
def cstF (z : Int × Option Place) (x : Place) : Int × Option Place := (match z.2 with | none => z.1 | some y => z.1 + stp y x, some x)
def cst (o : List Place) : Int := (o.foldl (cstF stp) (c0, none)).1
structure Vo (o : List Place) : Prop where
  nd : (o.map (·.1)).Nodup
  ok : ∀ x ∈ o, x.1 < ps.length ∧ x.2 ∈ standsB (plugAt ps x.1)
end
section
variable {ps : List Plug} {stp : Place → Place → Int} {c0 : Int}
structure Best (ps : List Plug) (stp : Place → Place → Int) (c0 : Int) (v : Val) : Prop where
  is : v.1 = cst stp c0 v.2
  vo : Vo ps v.2
  len : v.2.length = ps.length
  least : ∀ o, Vo ps o → o.length = ps.length → ltV (cst stp c0 o, o) v = false
theorem Best.one {u v : Val} (a : Best ps stp c0 u) (b : Best ps stp c0 v) : u = v := by
  have h1 := a.least v.2 b.vo b.len
  have h2 := b.least u.2 a.vo a.len
  rw [← b.is] at h1
  rw [← a.is] at h2
  exact sto_v.tri _ _ h2 h1
end
section
variable {ps : List Plug}
theorem ixP {j : Nat} (hj : j < ps.length) : opIx (plugsD ps) (.int (j : Int)) = some (encP (plugAt ps j)) := getP (plug_at hj)
end
section
variable {ps : List Plug}
end
def extR (ρ : Rho) (d : D) (o : Option (List D)) (k : Nat) (ω : Om) : Out := match d, o with
  | .lst es, some ds => if ds.length + es.length ≤ lim then .next ρ (ω.set k (some (.lst (ds ++ es)))) else .stuck
  | _, _ => .stuck
theorem sExt_run {i : Nat} {ρ : Rho} {ω : Om} (f : FE D) : sExt i f ρ ω = someOL (ownK ρ i) (k := ⟨fun k => someOL (ownL ω k) (k := ⟨fun _ => outL (f ρ ω) ρ (k := ⟨fun d ω1 => extR ρ d (ownL ω1 k) k ω1⟩)⟩)⟩) := by
  show sExt i f ρ ω = someO (ownK ρ i) fun k => someO (ownL ω k) fun _ => (f ρ ω).out ρ fun d ω1 => extR ρ d (ownL ω1 k) k ω1
  unfold sExt someO
  cases ownK ρ i with
  | none => rfl
  | some k =>
    dsimp only
    cases ownL ω k with
    | none => rfl
    | some _ => rfl
theorem extR_run {ρ : Rho} {es ds : List D} {k : Nat} {ω : Om} : extR ρ (.lst es) (some ds) k ω = if ds.length + es.length ≤ lim then .next ρ (ω.set k (some (.lst (ds ++ es)))) else .stuck := rfl
end Pk
namespace Pk
open PySem Dl L2
local macro_rules
  | `(tactic| push_cast [$xs,*]) => `(tactic| simp -implicitDefEqProofs only [↓eC_run, ↓eVar_run, ↓eSlot_run, ↓eBin_run, ↓eUn_run, ↓eTest_run, ↓eAndT_run, ↓eOrT_run, ↓eNotT_run, ↓eTrue_run, ↓eAnd_run, ↓eOr_run, ↓eNot_run, ↓eIf_run, ↓aNil_run, ↓aCons_run, ↓aVal_run, ↓eTup_run, ↓eList_run, ↓eLst_run, ↓eCallB_run, ↓eOnL_run, ↓eIsi_run, ↓eSl_run, ↓ePart_run, ↓eNoPart_run, ↓eChain_run, ↓eIxO_run, ↓eOwnL_run, ↓sNext_run, ↓sSeq_run, ↓sIf_run, ↓sExpr_run, ↓sRet_run, ↓sRetS_run, ↓sRetN_run, ↓sBreak_run, ↓sCont_run, ↓sAsg_run, ↓sSetS_run, ↓sPar_run, ↓sFor_run, ↓sWhile_run, ↓eIt1_run, ↓eIt2_run, ↓eIt3_run, ↓eLc_run, ↓eLc2_run, ↓sNewL_run, ↓sApp_run, ↓sSetIx_run, ↓sRetL_run, ↓sRetNew_run, ↓eCallP_run, ↓eCallE_run, ↓eVal_run, ↓eMake_run, ↓eFld_run, ↓sRaise_run, ↓sRaiseI_run, ↓sTry_run, ↓eIsx_run, ↓sPar3_run, ↓eNewL_run, ↓eNDisp_run, ↓eKDisp_run, ↓eEmptyK_run, ↓eNewN_run, ↓eKM_run, ↓eNGet_run, ↓eKGet_run, ↓eNGetO_run, ↓eCopyN_run, ↓sNPut_run, ↓aStar_run, ↓eRg1_run, ↓eIsi2_run, ↓eCopyL_run, ↓eNVals_run, ↓sExt_run, bind_ok, bind_exc, out_ok, out_exc, lift_some, obind_next, obind_ret, obind_exc, obind_brk, obind_cont, varR_run, slotR_run, asBl_run, allD_nil, allD_cons, asLst_run, asI_run, chR_run, ownK_run, ownKR_run, ownL_run, ownLR_run, someR_run, someO_run, ixI_run, parR_run, gN_run, gsNil_run, gsCons_run, itSeq_lst, itSeq_tup, itEn_lst, itEn_tup, itZ_lst, itZ_tup, wipeR_nil, wipeR_cons, setIxR_run, finP_ret, finP_next, finP_exc, finE_ret, finE_next, finE_exc, callR_ok, callR_err, valR_run, makeR_ok, makeR_exc, opAdd_int, opI_run, opB_run, opMulA_int, opEq_run, opNe_run, opIsN_run, opNotN_run, opIx_tup, opIx_lst, opNeg_run, oLen_tup, oLen_lst, oInt_int, oInt_bl, oTuple_tup, oTuple_lst, oList_tup, oList_lst, oTupleL_run, oListL_run, oLenL_run, isi_int_non, isi_int_bl, isi_int_int, isi_int_str, isi_int_tup, isi_int_lst, isi_bool_non, isi_bool_bl, isi_bool_int, isi_bool_str, isi_bool_tup, isi_bool_lst, isi_tuple_non, isi_tuple_bl, isi_tuple_int, isi_tuple_str, isi_tuple_tup, isi_tuple_lst, isi_str_non, isi_str_bl, isi_str_int, isi_str_str, isi_str_tup, isi_str_lst, isi_list_non, isi_list_bl, isi_list_int, isi_list_str, isi_list_tup, isi_list_lst, atI_0, atI_1, atI_2, atI_3, atI_4, atI_5, atI_6, atI_7, atI_8, ixN_1_0, ixN_2_0, ixN_2_1, ixN_3_0, ixN_3_1, ixN_3_2, ixN_4_0, ixN_4_1, ixN_4_2, ixN_4_3, ixN_5_0, ixN_5_1, ixN_5_2, ixN_5_3, ixN_5_4, eqD_int, eqD_bl, eqD_non_non, isNon_non, isNon_bl, isNon_int, isNon_str, isNon_tup, isNon_lst, Option.map_some, Option.map_none, Option.bind_some, List.getElem?_cons_zero, List.getElem?_cons_succ, List.set_cons_zero, List.set_cons_succ, List.map_cons, List.map_nil, List.length_cons, List.length_nil, List.cons_append, List.nil_append, rho0, List.replicate, List.take_succ_cons, List.take_zero, List.take_nil, List.take_length, and_self, Bool.false_eq_true, Bool.not_true, Bool.not_false, decide_true, decide_false, raiseI_run1, raiseI_run2, tryO_next, tryO_ret, tryH_nil, unbind_next, unbind_ret, eXf_run, par3R_run, newLR_0, newLR_1, kmR_run, kmR2_run, asK_run, asN_run, getRL_run, getKL_run, ngo0_run, ngo1_run, ngoR_run, ownN_run, ownNR_run, npK_run, starR_run, itNItems_run, itNKeys_run, oDictK_run, opIn2_K, opKIx_run, keyK_int, copyLR_lst, copyLR_tup, gT2_run, nValsD_run, Option.getD_some, tup_0, lst_0, tup_1, lst_1, tup_2, lst_2, tup_3, lst_3, tup_4, lst_4, tup_5, lst_5, tup_6, lst_6, tup_7, lst_7, tup_8, lst_8, tup_9, lst_9, tup_10, lst_10, tup_11, lst_11, tup_12, lst_12, new_0, new_1, new_2, new_3, new_4, new_5, extR_run, ↓reduceIte, Nat.reduceAdd, $xs,*])
  | `(tactic| push_cast [$xs,*] at $h:ident) => `(tactic| simp -implicitDefEqProofs only [↓eC_run, ↓eVar_run, ↓eSlot_run, ↓eBin_run, ↓eUn_run, ↓eTest_run, ↓eAndT_run, ↓eOrT_run, ↓eNotT_run, ↓eTrue_run, ↓eAnd_run, ↓eOr_run, ↓eNot_run, ↓eIf_run, ↓aNil_run, ↓aCons_run, ↓aVal_run, ↓eTup_run, ↓eList_run, ↓eLst_run, ↓eCallB_run, ↓eOnL_run, ↓eIsi_run, ↓eSl_run, ↓ePart_run, ↓eNoPart_run, ↓eChain_run, ↓eIxO_run, ↓eOwnL_run, ↓sNext_run, ↓sSeq_run, ↓sIf_run, ↓sExpr_run, ↓sRet_run, ↓sRetS_run, ↓sRetN_run, ↓sBreak_run, ↓sCont_run, ↓sAsg_run, ↓sSetS_run, ↓sPar_run, ↓sFor_run, ↓sWhile_run, ↓eIt1_run, ↓eIt2_run, ↓eIt3_run, ↓eLc_run, ↓eLc2_run, ↓sNewL_run, ↓sApp_run, ↓sSetIx_run, ↓sRetL_run, ↓sRetNew_run, ↓eCallP_run, ↓eCallE_run, ↓eVal_run, ↓eMake_run, ↓eFld_run, ↓sRaise_run, ↓sRaiseI_run, ↓sTry_run, ↓eIsx_run, ↓sPar3_run, ↓eNewL_run, ↓eNDisp_run, ↓eKDisp_run, ↓eEmptyK_run, ↓eNewN_run, ↓eKM_run, ↓eNGet_run, ↓eKGet_run, ↓eNGetO_run, ↓eCopyN_run, ↓sNPut_run, ↓aStar_run, ↓eRg1_run, ↓eIsi2_run, ↓eCopyL_run, ↓eNVals_run, ↓sExt_run, bind_ok, bind_exc, out_ok, out_exc, lift_some, obind_next, obind_ret, obind_exc, obind_brk, obind_cont, varR_run, slotR_run, asBl_run, allD_nil, allD_cons, asLst_run, asI_run, chR_run, ownK_run, ownKR_run, ownL_run, ownLR_run, someR_run, someO_run, ixI_run, parR_run, gN_run, gsNil_run, gsCons_run, itSeq_lst, itSeq_tup, itEn_lst, itEn_tup, itZ_lst, itZ_tup, wipeR_nil, wipeR_cons, setIxR_run, finP_ret, finP_next, finP_exc, finE_ret, finE_next, finE_exc, callR_ok, callR_err, valR_run, makeR_ok, makeR_exc, opAdd_int, opI_run, opB_run, opMulA_int, opEq_run, opNe_run, opIsN_run, opNotN_run, opIx_tup, opIx_lst, opNeg_run, oLen_tup, oLen_lst, oInt_int, oInt_bl, oTuple_tup, oTuple_lst, oList_tup, oList_lst, oTupleL_run, oListL_run, oLenL_run, isi_int_non, isi_int_bl, isi_int_int, isi_int_str, isi_int_tup, isi_int_lst, isi_bool_non, isi_bool_bl, isi_bool_int, isi_bool_str, isi_bool_tup, isi_bool_lst, isi_tuple_non, isi_tuple_bl, isi_tuple_int, isi_tuple_str, isi_tuple_tup, isi_tuple_lst, isi_str_non, isi_str_bl, isi_str_int, isi_str_str, isi_str_tup, isi_str_lst, isi_list_non, isi_list_bl, isi_list_int, isi_list_str, isi_list_tup, isi_list_lst, atI_0, atI_1, atI_2, atI_3, atI_4, atI_5, atI_6, atI_7, atI_8, ixN_1_0, ixN_2_0, ixN_2_1, ixN_3_0, ixN_3_1, ixN_3_2, ixN_4_0, ixN_4_1, ixN_4_2, ixN_4_3, ixN_5_0, ixN_5_1, ixN_5_2, ixN_5_3, ixN_5_4, eqD_int, eqD_bl, eqD_non_non, isNon_non, isNon_bl, isNon_int, isNon_str, isNon_tup, isNon_lst, Option.map_some, Option.map_none, Option.bind_some, List.getElem?_cons_zero, List.getElem?_cons_succ, List.set_cons_zero, List.set_cons_succ, List.map_cons, List.map_nil, List.length_cons, List.length_nil, List.cons_append, List.nil_append, rho0, List.replicate, List.take_succ_cons, List.take_zero, List.take_nil, List.take_length, and_self, Bool.false_eq_true, Bool.not_true, Bool.not_false, decide_true, decide_false, raiseI_run1, raiseI_run2, tryO_next, tryO_ret, tryH_nil, unbind_next, unbind_ret, eXf_run, par3R_run, newLR_0, newLR_1, kmR_run, kmR2_run, asK_run, asN_run, getRL_run, getKL_run, ngo0_run, ngo1_run, ngoR_run, ownN_run, ownNR_run, npK_run, starR_run, itNItems_run, itNKeys_run, oDictK_run, opIn2_K, opKIx_run, keyK_int, copyLR_lst, copyLR_tup, gT2_run, nValsD_run, Option.getD_some, tup_0, lst_0, tup_1, lst_1, tup_2, lst_2, tup_3, lst_3, tup_4, lst_4, tup_5, lst_5, tup_6, lst_6, tup_7, lst_7, tup_8, lst_8, tup_9, lst_9, tup_10, lst_10, tup_11, lst_11, tup_12, lst_12, new_0, new_1, new_2, new_3, new_4, new_5, extR_run, ↓reduceIte, Nat.reduceAdd, $xs,*] at $h:ident)
def froms (lo n : Nat) : List Nat := (List.range (n - lo)).map (lo + ·)
def fitsAt (s : List Int) (p : Plug) (t : Bool) (e : Int) (k : Nat) : Bool := decide (e ≤ s.getD k 0 - sideL p t)
def nxt (s : List Int) (p : Plug) (t : Bool) (lo : Nat) (e : Int) : Option Nat := (froms lo s.length).find? (fitsAt s p t e)
section
variable {s : List Int} {ps : List Plug}
end
section
variable (s : List Int) (ps : List Plug)
end
section
variable {s : List Int} {ps : List Plug}
end
end Pk
namespace Pk
open PySem Dl L2
local macro_rules
  | `(tactic| push_cast [$xs,*]) => `(tactic| simp -implicitDefEqProofs only [↓eC_run, ↓eVar_run, ↓eSlot_run, ↓eBin_run, ↓eUn_run, ↓eTest_run, ↓eAndT_run, ↓eOrT_run, ↓eNotT_run, ↓eTrue_run, ↓eAnd_run, ↓eOr_run, ↓eNot_run, ↓eIf_run, ↓aNil_run, ↓aCons_run, ↓aVal_run, ↓eTup_run, ↓eList_run, ↓eLst_run, ↓eCallB_run, ↓eOnL_run, ↓eIsi_run, ↓eSl_run, ↓ePart_run, ↓eNoPart_run, ↓eChain_run, ↓eIxO_run, ↓eOwnL_run, ↓sNext_run, ↓sSeq_run, ↓sIf_run, ↓sExpr_run, ↓sRet_run, ↓sRetS_run, ↓sRetN_run, ↓sBreak_run, ↓sCont_run, ↓sAsg_run, ↓sSetS_run, ↓sPar_run, ↓sFor_run, ↓sWhile_run, ↓eIt1_run, ↓eIt2_run, ↓eIt3_run, ↓eLc_run, ↓eLc2_run, ↓sNewL_run, ↓sApp_run, ↓sSetIx_run, ↓sRetL_run, ↓sRetNew_run, ↓eCallP_run, ↓eCallE_run, ↓eVal_run, ↓eMake_run, ↓eFld_run, ↓sRaise_run, ↓sRaiseI_run, ↓sTry_run, ↓eIsx_run, ↓sPar3_run, ↓eNewL_run, ↓eNDisp_run, ↓eKDisp_run, ↓eEmptyK_run, ↓eNewN_run, ↓eKM_run, ↓eNGet_run, ↓eKGet_run, ↓eNGetO_run, ↓eCopyN_run, ↓sNPut_run, ↓aStar_run, ↓eRg1_run, ↓eIsi2_run, ↓eCopyL_run, ↓eNVals_run, bind_ok, bind_exc, out_ok, out_exc, lift_some, obind_next, obind_ret, obind_exc, obind_brk, obind_cont, varR_run, slotR_run, asBl_run, allD_nil, allD_cons, asLst_run, asI_run, chR_run, ownK_run, ownKR_run, ownL_run, ownLR_run, someR_run, someO_run, ixI_run, parR_run, gN_run, gsNil_run, gsCons_run, itSeq_lst, itSeq_tup, itEn_lst, itEn_tup, itZ_lst, itZ_tup, wipeR_nil, wipeR_cons, setIxR_run, finP_ret, finP_next, finP_exc, finE_ret, finE_next, finE_exc, callR_ok, callR_err, valR_run, makeR_ok, makeR_exc, opAdd_int, opI_run, opB_run, opMulA_int, opEq_run, opNe_run, opIsN_run, opNotN_run, opIx_tup, opIx_lst, opNeg_run, oLen_tup, oLen_lst, oInt_int, oInt_bl, oTuple_tup, oTuple_lst, oList_tup, oList_lst, oTupleL_run, oListL_run, oLenL_run, isi_int_non, isi_int_bl, isi_int_int, isi_int_str, isi_int_tup, isi_int_lst, isi_bool_non, isi_bool_bl, isi_bool_int, isi_bool_str, isi_bool_tup, isi_bool_lst, isi_tuple_non, isi_tuple_bl, isi_tuple_int, isi_tuple_str, isi_tuple_tup, isi_tuple_lst, isi_str_non, isi_str_bl, isi_str_int, isi_str_str, isi_str_tup, isi_str_lst, isi_list_non, isi_list_bl, isi_list_int, isi_list_str, isi_list_tup, isi_list_lst, atI_0, atI_1, atI_2, atI_3, atI_4, atI_5, atI_6, atI_7, atI_8, ixN_1_0, ixN_2_0, ixN_2_1, ixN_3_0, ixN_3_1, ixN_3_2, ixN_4_0, ixN_4_1, ixN_4_2, ixN_4_3, ixN_5_0, ixN_5_1, ixN_5_2, ixN_5_3, ixN_5_4, eqD_int, eqD_bl, eqD_non_non, isNon_non, isNon_bl, isNon_int, isNon_str, isNon_tup, isNon_lst, Option.map_some, Option.map_none, Option.bind_some, List.getElem?_cons_zero, List.getElem?_cons_succ, List.set_cons_zero, List.set_cons_succ, List.map_cons, List.map_nil, List.length_cons, List.length_nil, List.cons_append, List.nil_append, rho0, List.replicate, List.take_succ_cons, List.take_zero, List.take_nil, List.take_length, and_self, Bool.false_eq_true, Bool.not_true, Bool.not_false, decide_true, decide_false, raiseI_run1, raiseI_run2, tryO_next, tryO_ret, tryH_nil, unbind_next, unbind_ret, eXf_run, par3R_run, newLR_0, newLR_1, kmR_run, kmR2_run, asK_run, asN_run, getRL_run, getKL_run, ngo0_run, ngo1_run, ngoR_run, ownN_run, ownNR_run, npK_run, starR_run, itNItems_run, itNKeys_run, oDictK_run, opIn2_K, opKIx_run, keyK_int, copyLR_lst, copyLR_tup, gT2_run, nValsD_run, Option.getD_some, tup_0, lst_0, tup_1, lst_1, tup_2, lst_2, tup_3, lst_3, tup_4, lst_4, tup_5, lst_5, tup_6, lst_6, tup_7, lst_7, tup_8, lst_8, tup_9, lst_9, tup_10, lst_10, tup_11, lst_11, tup_12, lst_12, new_0, new_1, new_2, new_3, new_4, new_5, ↓reduceIte, Nat.reduceAdd, $xs,*])
  | `(tactic| push_cast [$xs,*] at $h:ident) => `(tactic| simp -implicitDefEqProofs only [↓eC_run, ↓eVar_run, ↓eSlot_run, ↓eBin_run, ↓eUn_run, ↓eTest_run, ↓eAndT_run, ↓eOrT_run, ↓eNotT_run, ↓eTrue_run, ↓eAnd_run, ↓eOr_run, ↓eNot_run, ↓eIf_run, ↓aNil_run, ↓aCons_run, ↓aVal_run, ↓eTup_run, ↓eList_run, ↓eLst_run, ↓eCallB_run, ↓eOnL_run, ↓eIsi_run, ↓eSl_run, ↓ePart_run, ↓eNoPart_run, ↓eChain_run, ↓eIxO_run, ↓eOwnL_run, ↓sNext_run, ↓sSeq_run, ↓sIf_run, ↓sExpr_run, ↓sRet_run, ↓sRetS_run, ↓sRetN_run, ↓sBreak_run, ↓sCont_run, ↓sAsg_run, ↓sSetS_run, ↓sPar_run, ↓sFor_run, ↓sWhile_run, ↓eIt1_run, ↓eIt2_run, ↓eIt3_run, ↓eLc_run, ↓eLc2_run, ↓sNewL_run, ↓sApp_run, ↓sSetIx_run, ↓sRetL_run, ↓sRetNew_run, ↓eCallP_run, ↓eCallE_run, ↓eVal_run, ↓eMake_run, ↓eFld_run, ↓sRaise_run, ↓sRaiseI_run, ↓sTry_run, ↓eIsx_run, ↓sPar3_run, ↓eNewL_run, ↓eNDisp_run, ↓eKDisp_run, ↓eEmptyK_run, ↓eNewN_run, ↓eKM_run, ↓eNGet_run, ↓eKGet_run, ↓eNGetO_run, ↓eCopyN_run, ↓sNPut_run, ↓aStar_run, ↓eRg1_run, ↓eIsi2_run, ↓eCopyL_run, ↓eNVals_run, bind_ok, bind_exc, out_ok, out_exc, lift_some, obind_next, obind_ret, obind_exc, obind_brk, obind_cont, varR_run, slotR_run, asBl_run, allD_nil, allD_cons, asLst_run, asI_run, chR_run, ownK_run, ownKR_run, ownL_run, ownLR_run, someR_run, someO_run, ixI_run, parR_run, gN_run, gsNil_run, gsCons_run, itSeq_lst, itSeq_tup, itEn_lst, itEn_tup, itZ_lst, itZ_tup, wipeR_nil, wipeR_cons, setIxR_run, finP_ret, finP_next, finP_exc, finE_ret, finE_next, finE_exc, callR_ok, callR_err, valR_run, makeR_ok, makeR_exc, opAdd_int, opI_run, opB_run, opMulA_int, opEq_run, opNe_run, opIsN_run, opNotN_run, opIx_tup, opIx_lst, opNeg_run, oLen_tup, oLen_lst, oInt_int, oInt_bl, oTuple_tup, oTuple_lst, oList_tup, oList_lst, oTupleL_run, oListL_run, oLenL_run, isi_int_non, isi_int_bl, isi_int_int, isi_int_str, isi_int_tup, isi_int_lst, isi_bool_non, isi_bool_bl, isi_bool_int, isi_bool_str, isi_bool_tup, isi_bool_lst, isi_tuple_non, isi_tuple_bl, isi_tuple_int, isi_tuple_str, isi_tuple_tup, isi_tuple_lst, isi_str_non, isi_str_bl, isi_str_int, isi_str_str, isi_str_tup, isi_str_lst, isi_list_non, isi_list_bl, isi_list_int, isi_list_str, isi_list_tup, isi_list_lst, atI_0, atI_1, atI_2, atI_3, atI_4, atI_5, atI_6, atI_7, atI_8, ixN_1_0, ixN_2_0, ixN_2_1, ixN_3_0, ixN_3_1, ixN_3_2, ixN_4_0, ixN_4_1, ixN_4_2, ixN_4_3, ixN_5_0, ixN_5_1, ixN_5_2, ixN_5_3, ixN_5_4, eqD_int, eqD_bl, eqD_non_non, isNon_non, isNon_bl, isNon_int, isNon_str, isNon_tup, isNon_lst, Option.map_some, Option.map_none, Option.bind_some, List.getElem?_cons_zero, List.getElem?_cons_succ, List.set_cons_zero, List.set_cons_succ, List.map_cons, List.map_nil, List.length_cons, List.length_nil, List.cons_append, List.nil_append, rho0, List.replicate, List.take_succ_cons, List.take_zero, List.take_nil, List.take_length, and_self, Bool.false_eq_true, Bool.not_true, Bool.not_false, decide_true, decide_false, raiseI_run1, raiseI_run2, tryO_next, tryO_ret, tryH_nil, unbind_next, unbind_ret, eXf_run, par3R_run, newLR_0, newLR_1, kmR_run, kmR2_run, asK_run, asN_run, getRL_run, getKL_run, ngo0_run, ngo1_run, ngoR_run, ownN_run, ownNR_run, npK_run, starR_run, itNItems_run, itNKeys_run, oDictK_run, opIn2_K, opKIx_run, keyK_int, copyLR_lst, copyLR_tup, gT2_run, nValsD_run, Option.getD_some, tup_0, lst_0, tup_1, lst_1, tup_2, lst_2, tup_3, lst_3, tup_4, lst_4, tup_5, lst_5, tup_6, lst_6, tup_7, lst_7, tup_8, lst_8, tup_9, lst_9, tup_10, lst_10, tup_11, lst_11, tup_12, lst_12, new_0, new_1, new_2, new_3, new_4, new_5, ↓reduceIte, Nat.reduceAdd, $xs,*] at $h:ident)
section
variable (s : List Int) (ps : List Plug)
end
section
variable {s : List Int} {ps : List Plug}
theorem sl_two (p : Plug) : slD none (some ((1 : Int) + if canT p = true then 1 else 0)) (.lst [.bl false, .bl true]) = some (.lst ((standsB p).map D.bl)) := by
  unfold standsB
  cases canT p <;> rfl
end
section
variable {s : List Int} {ps : List Plug}
end
section
variable (s : List Int) (ps : List Plug)
def wlk : Nat → Int → List Place → Option (Nat × Int)
  | lo, e, [] => some (lo, e)
  | lo, e, x :: r => match nxt s (plugAt ps x.1) x.2 lo e with
    | none => none
    | some k => wlk (k + 1) (bEnd s (plugAt ps x.1) (k, x.2)) r
def Ends (row : List Place) (lo : Nat) (e : Int) (o : List Place) : Prop := ∃ r x z, o = row ++ r ++ [x] ∧ Vo ps o ∧ wlk s ps lo e r = some z ∧ nxt s (plugAt ps x.1) x.2 z.1 z.2 = none
end
section
variable {s : List Int} {ps : List Plug}
end
section
variable (s : List Int) (ps : List Plug)
end
section
variable {s : List Int} {ps : List Plug}
end
section
variable {s : List Int} {ps : List Plug}
end
theorem dOk_pl (i : Int) : dOk 3 (.lst [.str "plugs", .int i]) = true := by
  have h : dOk 2 (.str "plugs") = true := by decide +kernel
  have h2 : dOk 2 (.int i) = true := by unfold dOk; rfl
  show (dOk 2 (.str "plugs") && (dOk 2 (.int i) && true)) = true
  rw [h, h2]; rfl
theorem Socks.pos {s : List Int} (h : Socks s) : 0 < s.length := by
  rcases Nat.eq_zero_or_pos s.length with z | z
  · exact absurd (List.eq_nil_of_length_eq_zero z) h.ne
  · exact z
theorem PlsOk.pos {ps : List Plug} (h : PlsOk ps) : 0 < ps.length := by
  rcases Nat.eq_zero_or_pos ps.length with z | z
  · exact absurd (List.eq_nil_of_length_eq_zero z) h.ne
  · exact z
section
variable {ps : List Plug}
theorem wrong_badN {most : Int} {k : Nat} {d : D} (hp : ∀ p ∈ ps, PlugOk p) (hl : (ps.length : Int) ≤ most) (hk : k < ps.length) (hd : d ∈ oddP) : F_check_plugs_2 [.tup ((ps.map encP).take k ++ [d] ++ (ps.map encP).drop (k + 1)), .int most] = some (.error (badPlugs (.int (k : Int)))) := by
  have e := check_plugs_bad (pre := (ps.map encP).take k) (post := (ps.map encP).drop (k + 1)) (most := most) (fun d hd => by
    obtain ⟨p, hp', rfl⟩ := List.mem_map.mp (List.mem_of_mem_take hd)
    exact is_plug_run (hp p hp')) (oddP_bad hd) (by
    simp only [List.length_append, List.length_take, List.length_cons, List.length_drop, List.length_map]
    omega)
  rw [List.append_assoc]
  have hl : ((ps.map encP).take k).length = k := by rw [List.length_take, List.length_map]; omega
  rw [hl] at e
  exact e
end
def v6 : Val := (6, [(0, false), (1, false), (2, false), (3, false), (4, false), (5, false)])
section
variable {s : List Int} {ps : List Plug}
theorem lcT_bools {α : Type} {tg : FG} {el : FE D} {ρ : Rho} {ω : Om} (f : α → D) (p : α → Bool) {xs : List α} (hl : xs.length ≤ lim) (h : ∀ x ∈ xs, ∃ ρ1, tg (f x) ρ = some ρ1 ∧ el ρ1 ω = .ok (.bl (p x)) ω) : lcL tg eTrue el ρ (xs.map f) [] ω = .ok (.lst (xs.map fun a => .bl (p a))) ω := by
  rw [lcT f (fun _ => true) (fun a => .bl (p a)) xs [] (by rw [List.length_nil]; omega) fun x hx => ?_]
  · rw [List.nil_append, List.filter_eq_self.mpr fun _ _ => rfl]
  · obtain ⟨ρ1, h1, h2⟩ := h x hx
    exact ⟨ρ1, h1, rfl, fun _ => h2⟩
theorem c22 : (((2 : Nat) : Int) == 2) = true := rfl
end
def within (a b : List Nat) : Bool := (a.zip b).all fun z => decide (z.1 ≤ z.2)
def maxC (A : List (List Nat)) : List (List Nat) := A.filter fun c => (A.filter fun o => !decide (o = c) && within c o).isEmpty
theorem eqD_cD (a b : List Nat) : eqD (cD a) (cD b) = some (decide (a = b)) := eqD_nDs a b
theorem zip_cD (a b : List Nat) : zipD (a.map nD) (b.map nD) = (a.zip b).map fun z => pairD (nD z.1) (nD z.2) := by
  unfold zipD
  rw [List.zip_eq_zipWith, List.map_zipWith, List.zipWith_map]
theorem within_run (a b : List Nat) (h : a.length ≤ 100) : F_is_within [cD a, cD b] = some (.ok (.bl (within a b))) := by
  have it : itZ (cD a) (cD b) = some ((a.zip b).map fun z => pairD (nD z.1) (nD z.2)) := by rw [← zip_cD]; rfl
  have lc : ∀ ω, lcL (gT 2 (gsCons (gN 2) (gsCons (gN 3) gsNil))) eTrue (eBin opLe (eVar 2) (eVar 3)) [some (.val (cD a)), some (.val (cD b)), none, none] ((a.zip b).map fun z => pairD (nD z.1) (nD z.2)) [] ω = .ok (.lst ((a.zip b).map fun z => .bl (decide (z.1 ≤ z.2)))) ω := fun ω =>
    lcT_bools (fun z : Nat × Nat => pairD (nD z.1) (nD z.2)) (fun z => decide (z.1 ≤ z.2)) (by rw [List.length_zip]; show min _ _ ≤ 16777216; omega) fun z _ => ⟨_, rfl, by
      have e : opLe (nD z.1) (nD z.2) = some (.bl (decide (z.1 ≤ z.2))) := by
        show some (D.bl _) = _
        congr 2
        dsimp only
        by_cases hz : z.1 ≤ z.2
        · rw [decide_eq_true hz, decide_eq_true (by omega)]
        · rw [decide_eq_false hz, decide_eq_false (by omega)]
      push_cast [e]⟩
  have al : oAllL ((a.zip b).map fun z => D.bl (decide (z.1 ≤ z.2))) = some (.bl (within a b)) := all_map (fun z : Nat × Nat => decide (z.1 ≤ z.2)) _
  unfold F_is_within
  rw [fnP_run (by rfl)]
  unfold f_is_within lc_is_within_1
  generalize within a b = W at *
  generalize ((a.zip b).map fun z => pairD (nD z.1) (nD z.2)) = Z at *
  generalize ((a.zip b).map fun z => D.bl (decide (z.1 ≤ z.2))) = B at *
  push_cast [it, lc, al]
section
variable {s : List Int} {ks : List Plug}
abbrev fuR (s : List Int) (ks : List Plug) (x4 : Option SV) : Rho := [some (.val (stripD s)), some (.val (plugsD ks)), some (.val (.dcN (ctD (cnts s ks)))), some (.own 0), x4, none]
theorem keys_ct (A : List (List Nat)) : itNKeys (.dcN (ctD A)) = some (A.map cD) := by
  rw [itNKeys_run]
  unfold ctD
  rw [List.map_map]; rfl
theorem full_lc (Q : KsOk s ks) {c : List Nat} (hc : c ∈ cnts s ks) (ω : Om) : lc_fullest_1 (fuR s ks (some (.val (cD c)))) ω = .ok (.lst (((cnts s ks).filter fun o => !decide (o = c) && within c o).map cD)) ω := by
  have l1 := cnts_len Q
  have m3 := Q.m3
  have kc := keys_ct (cnts s ks)
  unfold lc_fullest_1
  simp only [fuR]
  generalize hG : D.dcN (ctD (cnts s ks)) = G at *
  push_cast [kc]
  rw [lcT cD (fun o => !decide (o = c) && within c o) cD (cnts s ks) [] (by rw [List.length_nil]; show _ ≤ 16777216; omega)]
  · rw [List.nil_append]
  · intro o ho
    have w := within_run c o (by have := (cnts_ok Q hc).1; omega)
    have ne := eqD_cD o c
    refine ⟨_, rfl, ?_, fun _ => rfl⟩
    generalize within c o = W at *
    generalize decide (o = c) = B at *
    cases B with
    | true => push_cast [ne]; rfl
    | false => push_cast [ne, w]; rfl
theorem dOk_cDs (A : List (List Nat)) : dOk 3 (.lst (A.map cD)) = true := by
  rw [dOk, List.all_map, List.all_eq_true]
  intro c _
  show dOk 2 (cD c) = true
  unfold cD
  rw [dOk, List.all_map, List.all_eq_true]
  intro n _
  rfl
theorem eq_nil_cDs (A : List (List Nat)) : eqD (.lst (A.map cD)) (.lst []) = some A.isEmpty := by
  cases A with
  | nil => rw [List.map_nil, eqD_nilL]; rfl
  | cons a A => 
    have h := dOk_cDs (a :: A)
    rw [List.map_cons] at h ⊢
    rw [eqD_some h (by decide)]; rfl
theorem fullest_run (Q : KsOk s ks) : F_fullest [stripD s, plugsD ks] = some (.ok (.lst (((maxC (cnts s ks)).mergeSort leN).map tD))) := by
  have c1 := check_plugs_ok2 Q.pl Q.ne (most := 3) (by have := Q.m3; omega)
  have e1 := all_counts_run Q
  have l1 := cnts_len Q
  have kc := keys_ct (cnts s ks)
  obtain ⟨ρ', ω', e, hl, x4, rfl, rfl⟩ := forL_foldI (tg := gN 4) (b := bd_fullest_2) cD (fun acc c => if ((cnts s ks).filter fun o => !decide (o = c) && within c o).isEmpty then acc ++ [c] else acc) (fun i acc ρ ω => acc.length ≤ i ∧ ∃ x4, ρ = fuR s ks x4 ∧ ω = [some (.lst (acc.map cD))])
    (cnts s ks) 0 [] (fuR s ks none) [some (.lst [])] ⟨Nat.le_refl _, none, rfl, rfl⟩ (by
    rintro i acc c ρ ω hc hi ⟨hl, x4, rfl, rfl⟩
    have lc := full_lc Q hc [some (.lst (acc.map cD))]
    have eN := eq_nil_cDs ((cnts s ks).filter fun o => !decide (o = c) && within c o)
    have ll : (acc.map cD).length < lim := by rw [List.length_map]; show _ < 16777216; omega
    refine ⟨fuR s ks (some (.val (cD c))), fuR s ks (some (.val (cD c))), _, rfl, ?_, ⟨?_, _, rfl, rfl⟩⟩
    · simp only [fuR] at lc ⊢
      unfold bd_fullest_2
      generalize D.dcN (ctD (cnts s ks)) = G at *
      generalize (((cnts s ks).filter fun o => !decide (o = c) && within c o).map cD) = F at *
      generalize ((cnts s ks).filter fun o => !decide (o = c) && within c o).isEmpty = B at *
      cases B with
      | true => 
        rw [if_pos rfl, List.map_append]
        push_cast [fuR, lc, eN, ll]
      | false =>
        rw [if_neg Bool.false_ne_true]
        push_cast [fuR, lc, eN]
    · split
      · rw [List.length_append]; show _ + 1 ≤ _; omega
      · omega)
  have hf : (cnts s ks).foldl (fun acc c => if ((cnts s ks).filter fun o => !decide (o = c) && within c o).isEmpty then acc ++ [c] else acc) [] = maxC (cnts s ks) := by
    have g : ∀ (p : List Nat → Bool) (l acc : List (List Nat)), l.foldl (fun acc c => if p c then acc ++ [c] else acc) acc = acc ++ l.filter p := fun p l => by
      induction l with
      | nil => intro acc; simp
      | cons a l ih =>
        intro acc
        rw [List.foldl_cons, ih, List.filter_cons]
        split <;> simp
    have := g (fun c => ((cnts s ks).filter fun o => !decide (o = c) && within c o).isEmpty) (cnts s ks) []
    rw [List.nil_append] at this
    exact this
  rw [hf] at e
  have so : oSortL ((maxC (cnts s ks)).map cD) = some (.lst (((maxC (cnts s ks)).mergeSort leN).map tD)) := sortL_tD fun a ha hz => by
    have := (cnts_ok Q (List.mem_filter.mp ha).1).1
    have := Q.m1
    rw [hz, List.length_nil] at *
    omega
  unfold F_fullest
  rw [fnP_run (by rfl)]
  unfold f_fullest
  simp only [fuR] at e
  generalize (((maxC (cnts s ks)).mergeSort leN).map tD) = S at *
  generalize hM : (maxC (cnts s ks)).map cD = M at *
  generalize hC : (cnts s ks).map cD = C at *
  generalize D.dcN (ctD (cnts s ks)) = G at *
  push_cast [c1, e1, kc, e, so]
end
end Pk
namespace Pk
open PySem Dl L2
local macro_rules
  | `(tactic| push_cast [$xs,*]) => `(tactic| simp -implicitDefEqProofs only [↓eC_run, ↓eVar_run, ↓eSlot_run, ↓eBin_run, ↓eUn_run, ↓eTest_run, ↓eAndT_run, ↓eOrT_run, ↓eNotT_run, ↓eTrue_run, ↓eAnd_run, ↓eOr_run, ↓eNot_run, ↓eIf_run, ↓aNil_run, ↓aCons_run, ↓aVal_run, ↓eTup_run, ↓eList_run, ↓eLst_run, ↓eCallB_run, ↓eOnL_run, ↓eIsi_run, ↓eSl_run, ↓ePart_run, ↓eNoPart_run, ↓eChain_run, ↓eIxO_run, ↓eOwnL_run, ↓sNext_run, ↓sSeq_run, ↓sIf_run, ↓sExpr_run, ↓sRet_run, ↓sRetS_run, ↓sRetN_run, ↓sBreak_run, ↓sCont_run, ↓sAsg_run, ↓sSetS_run, ↓sPar_run, ↓sFor_run, ↓sWhile_run, ↓eIt1_run, ↓eIt2_run, ↓eIt3_run, ↓eLc_run, ↓eLc2_run, ↓sNewL_run, ↓sApp_run, ↓sSetIx_run, ↓sRetL_run, ↓sRetNew_run, ↓eCallP_run, ↓eCallE_run, ↓eVal_run, ↓eMake_run, ↓eFld_run, ↓sRaise_run, ↓sRaiseI_run, ↓sTry_run, ↓eIsx_run, ↓sPar3_run, ↓eNewL_run, ↓eNDisp_run, ↓eKDisp_run, ↓eEmptyK_run, ↓eNewN_run, ↓eKM_run, ↓eNGet_run, ↓eKGet_run, ↓eNGetO_run, ↓eCopyN_run, ↓sNPut_run, ↓aStar_run, ↓eRg1_run, ↓eIsi2_run, ↓eCopyL_run, ↓eNVals_run, ↓eSortSetU_run, bind_ok, bind_exc, out_ok, out_exc, lift_some, obind_next, obind_ret, obind_exc, obind_brk, obind_cont, varR_run, slotR_run, asBl_run, allD_nil, allD_cons, asLst_run, asI_run, chR_run, ownK_run, ownKR_run, ownL_run, ownLR_run, someR_run, someO_run, ixI_run, parR_run, gN_run, gsNil_run, gsCons_run, itSeq_lst, itSeq_tup, itEn_lst, itEn_tup, itZ_lst, itZ_tup, wipeR_nil, wipeR_cons, setIxR_run, finP_ret, finP_next, finP_exc, finE_ret, finE_next, finE_exc, callR_ok, callR_err, valR_run, makeR_ok, makeR_exc, opAdd_int, opI_run, opB_run, opMulA_int, opEq_run, opNe_run, opIsN_run, opNotN_run, opIx_tup, opIx_lst, opNeg_run, oLen_tup, oLen_lst, oInt_int, oInt_bl, oTuple_tup, oTuple_lst, oList_tup, oList_lst, oTupleL_run, oListL_run, oLenL_run, isi_int_non, isi_int_bl, isi_int_int, isi_int_str, isi_int_tup, isi_int_lst, isi_bool_non, isi_bool_bl, isi_bool_int, isi_bool_str, isi_bool_tup, isi_bool_lst, isi_tuple_non, isi_tuple_bl, isi_tuple_int, isi_tuple_str, isi_tuple_tup, isi_tuple_lst, isi_str_non, isi_str_bl, isi_str_int, isi_str_str, isi_str_tup, isi_str_lst, isi_list_non, isi_list_bl, isi_list_int, isi_list_str, isi_list_tup, isi_list_lst, atI_0, atI_1, atI_2, atI_3, atI_4, atI_5, atI_6, atI_7, atI_8, ixN_1_0, ixN_2_0, ixN_2_1, ixN_3_0, ixN_3_1, ixN_3_2, ixN_4_0, ixN_4_1, ixN_4_2, ixN_4_3, ixN_5_0, ixN_5_1, ixN_5_2, ixN_5_3, ixN_5_4, eqD_int, eqD_bl, eqD_non_non, isNon_non, isNon_bl, isNon_int, isNon_str, isNon_tup, isNon_lst, Option.map_some, Option.map_none, Option.bind_some, List.getElem?_cons_zero, List.getElem?_cons_succ, List.set_cons_zero, List.set_cons_succ, List.map_cons, List.map_nil, List.length_cons, List.length_nil, List.cons_append, List.nil_append, rho0, List.replicate, List.take_succ_cons, List.take_zero, List.take_nil, List.take_length, and_self, Bool.false_eq_true, Bool.not_true, Bool.not_false, decide_true, decide_false, raiseI_run1, raiseI_run2, tryO_next, tryO_ret, tryH_nil, unbind_next, unbind_ret, eXf_run, par3R_run, newLR_0, newLR_1, kmR_run, kmR2_run, asK_run, asN_run, getRL_run, getKL_run, ngo0_run, ngo1_run, ngoR_run, ownN_run, ownNR_run, npK_run, starR_run, itNItems_run, itNKeys_run, oDictK_run, opIn2_K, opKIx_run, keyK_int, copyLR_lst, copyLR_tup, gT2_run, nValsD_run, Option.getD_some, tup_0, lst_0, tup_1, lst_1, tup_2, lst_2, tup_3, lst_3, tup_4, lst_4, tup_5, lst_5, tup_6, lst_6, tup_7, lst_7, tup_8, lst_8, tup_9, lst_9, tup_10, lst_10, tup_11, lst_11, tup_12, lst_12, new_0, new_1, new_2, new_3, new_4, new_5, ↓reduceIte, Nat.reduceAdd, $xs,*])
  | `(tactic| push_cast [$xs,*] at $h:ident) => `(tactic| simp -implicitDefEqProofs only [↓eC_run, ↓eVar_run, ↓eSlot_run, ↓eBin_run, ↓eUn_run, ↓eTest_run, ↓eAndT_run, ↓eOrT_run, ↓eNotT_run, ↓eTrue_run, ↓eAnd_run, ↓eOr_run, ↓eNot_run, ↓eIf_run, ↓aNil_run, ↓aCons_run, ↓aVal_run, ↓eTup_run, ↓eList_run, ↓eLst_run, ↓eCallB_run, ↓eOnL_run, ↓eIsi_run, ↓eSl_run, ↓ePart_run, ↓eNoPart_run, ↓eChain_run, ↓eIxO_run, ↓eOwnL_run, ↓sNext_run, ↓sSeq_run, ↓sIf_run, ↓sExpr_run, ↓sRet_run, ↓sRetS_run, ↓sRetN_run, ↓sBreak_run, ↓sCont_run, ↓sAsg_run, ↓sSetS_run, ↓sPar_run, ↓sFor_run, ↓sWhile_run, ↓eIt1_run, ↓eIt2_run, ↓eIt3_run, ↓eLc_run, ↓eLc2_run, ↓sNewL_run, ↓sApp_run, ↓sSetIx_run, ↓sRetL_run, ↓sRetNew_run, ↓eCallP_run, ↓eCallE_run, ↓eVal_run, ↓eMake_run, ↓eFld_run, ↓sRaise_run, ↓sRaiseI_run, ↓sTry_run, ↓eIsx_run, ↓sPar3_run, ↓eNewL_run, ↓eNDisp_run, ↓eKDisp_run, ↓eEmptyK_run, ↓eNewN_run, ↓eKM_run, ↓eNGet_run, ↓eKGet_run, ↓eNGetO_run, ↓eCopyN_run, ↓sNPut_run, ↓aStar_run, ↓eRg1_run, ↓eIsi2_run, ↓eCopyL_run, ↓eNVals_run, ↓eSortSetU_run, bind_ok, bind_exc, out_ok, out_exc, lift_some, obind_next, obind_ret, obind_exc, obind_brk, obind_cont, varR_run, slotR_run, asBl_run, allD_nil, allD_cons, asLst_run, asI_run, chR_run, ownK_run, ownKR_run, ownL_run, ownLR_run, someR_run, someO_run, ixI_run, parR_run, gN_run, gsNil_run, gsCons_run, itSeq_lst, itSeq_tup, itEn_lst, itEn_tup, itZ_lst, itZ_tup, wipeR_nil, wipeR_cons, setIxR_run, finP_ret, finP_next, finP_exc, finE_ret, finE_next, finE_exc, callR_ok, callR_err, valR_run, makeR_ok, makeR_exc, opAdd_int, opI_run, opB_run, opMulA_int, opEq_run, opNe_run, opIsN_run, opNotN_run, opIx_tup, opIx_lst, opNeg_run, oLen_tup, oLen_lst, oInt_int, oInt_bl, oTuple_tup, oTuple_lst, oList_tup, oList_lst, oTupleL_run, oListL_run, oLenL_run, isi_int_non, isi_int_bl, isi_int_int, isi_int_str, isi_int_tup, isi_int_lst, isi_bool_non, isi_bool_bl, isi_bool_int, isi_bool_str, isi_bool_tup, isi_bool_lst, isi_tuple_non, isi_tuple_bl, isi_tuple_int, isi_tuple_str, isi_tuple_tup, isi_tuple_lst, isi_str_non, isi_str_bl, isi_str_int, isi_str_str, isi_str_tup, isi_str_lst, isi_list_non, isi_list_bl, isi_list_int, isi_list_str, isi_list_tup, isi_list_lst, atI_0, atI_1, atI_2, atI_3, atI_4, atI_5, atI_6, atI_7, atI_8, ixN_1_0, ixN_2_0, ixN_2_1, ixN_3_0, ixN_3_1, ixN_3_2, ixN_4_0, ixN_4_1, ixN_4_2, ixN_4_3, ixN_5_0, ixN_5_1, ixN_5_2, ixN_5_3, ixN_5_4, eqD_int, eqD_bl, eqD_non_non, isNon_non, isNon_bl, isNon_int, isNon_str, isNon_tup, isNon_lst, Option.map_some, Option.map_none, Option.bind_some, List.getElem?_cons_zero, List.getElem?_cons_succ, List.set_cons_zero, List.set_cons_succ, List.map_cons, List.map_nil, List.length_cons, List.length_nil, List.cons_append, List.nil_append, rho0, List.replicate, List.take_succ_cons, List.take_zero, List.take_nil, List.take_length, and_self, Bool.false_eq_true, Bool.not_true, Bool.not_false, decide_true, decide_false, raiseI_run1, raiseI_run2, tryO_next, tryO_ret, tryH_nil, unbind_next, unbind_ret, eXf_run, par3R_run, newLR_0, newLR_1, kmR_run, kmR2_run, asK_run, asN_run, getRL_run, getKL_run, ngo0_run, ngo1_run, ngoR_run, ownN_run, ownNR_run, npK_run, starR_run, itNItems_run, itNKeys_run, oDictK_run, opIn2_K, opKIx_run, keyK_int, copyLR_lst, copyLR_tup, gT2_run, nValsD_run, Option.getD_some, tup_0, lst_0, tup_1, lst_1, tup_2, lst_2, tup_3, lst_3, tup_4, lst_4, tup_5, lst_5, tup_6, lst_6, tup_7, lst_7, tup_8, lst_8, tup_9, lst_9, tup_10, lst_10, tup_11, lst_11, tup_12, lst_12, new_0, new_1, new_2, new_3, new_4, new_5, ↓reduceIte, Nat.reduceAdd, $xs,*] at $h:ident)
section
variable {s : List Int} {ks : List Plug}
theorem gT2l {f : List D → Rho → Option Rho} {x y : D} {ρ : Rho} : gT 2 f (.lst [x, y]) ρ = f [x, y] ρ := rfl
abbrev lwR (s : List Int) (ks : List Plug) (L0 : List LK) (x3 x4 x5 x6 x7 x8 x9 x10 x11 : Option SV) : Rho := [some (SV.val (socksD s)), some (SV.val (plugsD ks)), some (SV.val (.dcN (kD L0))), x3, x4, x5, x6, x7, x8, x9, x10, x11]
theorem lw_bd1 (Q : KsOk s ks) {L0 L : List LK} {n i N : Nat} {k : LK} {t : Bool} {pre : Om} {x9 x10 x11 : Option SV} (hn : n < s.length) (hi : i < ks.length) (hk : k.1.length = ks.length) (O : CkOk ks.length N L) (h9 : N ≤ 9) :
    ∃ y9 y10 y11, bd__law_counts_1 (lwR s ks L0 (iV n) (some (.own pre.length)) (some (.val (cD k.1))) (iV k.2) (iV i) (some (.val (.bl t))) x9 x10 x11) (pre ++ [some (.dcN (kD L))]) =
      .next (lwR s ks L0 (iV n) (some (.own pre.length)) (some (.val (cD k.1))) (iV k.2) (iV i) (some (.val (.bl t))) y9 y10 y11) (pre ++ [some (.dcN (kD (cs1 s n k i (plugAt ks i) L t)))]) := by
  have h3 := Q.m3
  have hik : i < k.1.length := by omega
  have ip := ixP (ps := ks) hi
  generalize plugAt ks i = p at ip
  have eb : F__law_body [socksD s, encP p, .tup [.int (n : Int), .bl t]] = some (.ok (.lst [.int (bBeg s p (n, t)), .int (bEnd s p (n, t))])) := law_body_run (pl := (n, t)) hn
  have c1 : slD none (some (i : Int)) (cD k.1) = some (.tup ((k.1.map nD).take i)) := cut_lo _ _
  have c2 : slD (some ((i : Int) + 1)) none (cD k.1) = some (.tup ((k.1.map nD).drop (i + 1))) := cut_hi _ _
  have e1 : opIx (cD k.1) (.int (i : Int)) = some (.int ((k.1.getD i 0 : Nat) : Int)) := by
    unfold cD
    rw [opIx_tup]
    exact atI_map nD (by rw [List.getD_eq_getElem?_getD, List.getElem?_eq_getElem hik]; rfl)
  have d1 : opAdd (.tup ((k.1.map nD).take i)) (.tup [.int ((k.1.getD i 0 : Nat) + 1 : Int)]) = some (.tup ((k.1.map nD).take i ++ [.int ((k.1.getD i 0 : Nat) + 1 : Int)])) := opAdd_tup (by
    simp only [List.length_take, List.length_map, List.length_cons, List.length_nil]; show _ ≤ 16777216; omega)
  have d2 : opAdd (.tup ((k.1.map nD).take i ++ [.int ((k.1.getD i 0 : Nat) + 1 : Int)])) (.tup ((k.1.map nD).drop (i + 1))) = some (cD (incC k.1 i)) := by
    rw [opAdd_tup (by simp only [List.length_append, List.length_take, List.length_drop, List.length_map, List.length_cons, List.length_nil]; show _ ≤ 16777216; omega)]
    unfold cD incC
    rw [List.map_append, List.map_cons, List.map_take, List.map_drop, List.append_assoc]
    rfl
  have hkey : D.tup [cD (incC k.1 i), .int (bEnd s p (n, t))] = keyD (incC k.1 i, bEnd s p (n, t)) := rfl
  cases h1 : decide (k.2 ≤ bBeg s p (n, t)) with
  | false =>
    refine ⟨some (.val (.int (bBeg s p (n, t)))), some (.val (.int (bEnd s p (n, t)))), x11, ?_⟩
    unfold bd__law_counts_1 cs1
    rw [if_neg (of_decide_eq_false h1)]
    push_cast [lwR, iV, gT2l, ip, eb, h1]
  | true =>
    refine ⟨some (.val (.int (bBeg s p (n, t)))), some (.val (.int (bEnd s p (n, t)))), some (.val (cD (incC k.1 i))), ?_⟩
    unfold bd__law_counts_1 cs1
    rw [if_pos (of_decide_eq_true h1)]
    generalize hC : cD (incC k.1 i) = CI at d2 hkey
    generalize (k.1.map nD).take i = T1 at c1 d1 d2
    generalize (k.1.map nD).drop (i + 1) = T2 at c2 d2
    generalize (k.1.getD i 0 : Nat) = cc at e1 d1 d2
    push_cast [lwR, iV, gT2l, ip, eb, h1, c1, c2, e1, d1, d2, hkey, app_get', app_set, nPutR_run (isKey_key _) (O.lt Q.m1 Q.m3 h9), dnPut_k]
theorem lw_bd2 (Q : KsOk s ks) {L0 L : List LK} {n i N : Nat} {k : LK} {pre : Om} {x8 x9 x10 x11 : Option SV} (hn : n < s.length) (hi : i < ks.length) (hk : k.1.length = ks.length) (hs : k.1.sum < N) (O : CkOk ks.length N L) (h9 : N ≤ 9) :
    ∃ y8 y9 y10 y11, bd__law_counts_2 (lwR s ks L0 (iV n) (some (.own pre.length)) (some (.val (cD k.1))) (iV k.2) (iV i) x8 x9 x10 x11) (pre ++ [some (.dcN (kD L))]) =
      .next (lwR s ks L0 (iV n) (some (.own pre.length)) (some (.val (cD k.1))) (iV k.2) (iV i) y8 y9 y10 y11) (pre ++ [some (.dcN (kD (cs2 s n k L (i, plugAt ks i))))]) := by
  have hp : PlugOk (plugAt ks i) := Q.pl _ (List.mem_of_getElem? (plug_at hi))
  obtain ⟨ρ', ω', e, O', y8, y9, y10, y11, rfl, rfl⟩ := forL_fold (tg := gN 8) (b := bd__law_counts_1) D.bl (cs1 s n k i (plugAt ks i)) (fun L ρ ω => CkOk ks.length N L ∧ ∃ x8 x9 x10 x11, ρ = lwR s ks L0 (iV n) (some (.own pre.length)) (some (.val (cD k.1))) (iV k.2) (iV i) x8 x9 x10 x11 ∧ ω = pre ++ [some (.dcN (kD L))])
    (standsB (plugAt ks i)) L (lwR s ks L0 (iV n) (some (.own pre.length)) (some (.val (cD k.1))) (iV k.2) (iV i) x8 x9 x10 x11) (pre ++ [some (.dcN (kD L))]) ⟨O, x8, x9, x10, x11, rfl, rfl⟩ (by
    rintro L t ρ ω _ ⟨O, x8, x9, x10, x11, rfl, rfl⟩
    obtain ⟨y9, y10, y11, e⟩ := lw_bd1 Q (L0 := L0) (t := t) (k := k) (pre := pre) (x9 := x9) (x10 := x10) (x11 := x11) hn hi hk O h9
    exact ⟨_, _, _, rfl, e, cs1_ok Q hn hp hi hk hs O, _, _, _, _, rfl, rfl⟩)
  refine ⟨y8, y9, y10, y11, ?_⟩
  have ip := ixP (ps := ks) hi
  have e3 := sl_two (plugAt ks i)
  unfold bd__law_counts_2
  cases hc : canT (plugAt ks i) with
  | true =>
    rw [hc] at e3
    have e3 : slD none (some ((1 : Int) + 1)) (.lst [.bl false, .bl true]) = some (.lst ((standsB (plugAt ks i)).map D.bl)) := e3
    push_cast [lwR, iV, ip, law_can_run, hc, e3]
    exact e
  | false =>
    rw [hc] at e3
    have e3 : slD none (some ((1 : Int) + 0)) (.lst [.bl false, .bl true]) = some (.lst ((standsB (plugAt ks i)).map D.bl)) := e3
    push_cast [lwR, iV, ip, law_can_run, hc, e3]
    exact e
theorem idx_range (ks : List Plug) : (ks.mapIdx fun i p => (i, p)) = (List.range ks.length).map fun j => (j, plugAt ks j) := by
  apply List.ext_getElem
  · simp
  · intro i h1 h2
    have hi : i < ks.length := by simpa using h1
    have e := plug_at (ps := ks) hi
    rw [List.getElem?_eq_getElem hi] at e
    simp
    exact Option.some.inj e
theorem lw_bd3 (Q : KsOk s ks) {L0 L : List LK} {n N : Nat} {k : LK} {pre : Om} {x7 x8 x9 x10 x11 : Option SV} (hn : n < s.length) (hk : k.1.length = ks.length) (hs : k.1.sum < N) (O : CkOk ks.length N L) (h9 : N ≤ 9) :
    ∃ y7 y8 y9 y10 y11, bd__law_counts_3 (lwR s ks L0 (iV n) (some (.own pre.length)) (some (.val (cD k.1))) (iV k.2) x7 x8 x9 x10 x11) (pre ++ [some (.dcN (kD L))]) =
      .next (lwR s ks L0 (iV n) (some (.own pre.length)) (some (.val (cD k.1))) (iV k.2) y7 y8 y9 y10 y11) (pre ++ [some (.dcN (kD (cs3 s n ks L k)))]) := by
  have h3 := Q.m3
  have i1 : itR1 (.int (ks.length : Int)) = some ((List.range ks.length).map nD) := by rw [itR1_run (by omega) (by omega), rng_nD]
  obtain ⟨ρ', ω', e, O', y7, y8, y9, y10, y11, rfl, rfl⟩ := forL_fold (tg := gN 7) (b := bd__law_counts_2) nD (fun L j => cs2 s n k L (j, plugAt ks j)) (fun L ρ ω => CkOk ks.length N L ∧ ∃ x7 x8 x9 x10 x11, ρ = lwR s ks L0 (iV n) (some (.own pre.length)) (some (.val (cD k.1))) (iV k.2) x7 x8 x9 x10 x11 ∧ ω = pre ++ [some (.dcN (kD L))])
    (List.range ks.length) L (lwR s ks L0 (iV n) (some (.own pre.length)) (some (.val (cD k.1))) (iV k.2) x7 x8 x9 x10 x11) (pre ++ [some (.dcN (kD L))]) ⟨O, x7, x8, x9, x10, x11, rfl, rfl⟩ (by
    rintro L j ρ ω hj ⟨O, x7, x8, x9, x10, x11, rfl, rfl⟩
    have hj := List.mem_range.mp hj
    obtain ⟨y8, y9, y10, y11, e⟩ := lw_bd2 Q (L0 := L0) (k := k) (pre := pre) (x8 := x8) (x9 := x9) (x10 := x10) (x11 := x11) hn hj hk hs O h9
    have hz : (j, plugAt ks j) ∈ ks.mapIdx fun i p => (i, p) := by rw [idx_range]; exact List.mem_map.mpr ⟨j, List.mem_range.mpr hj, rfl⟩
    exact ⟨_, _, _, rfl, e, cs2_ok Q hn hz hk hs O, _, _, _, _, _, rfl, rfl⟩)
  refine ⟨y7, y8, y9, y10, y11, ?_⟩
  have ef : (List.range ks.length).foldl (fun L j => cs2 s n k L (j, plugAt ks j)) L = cs3 s n ks L k := by
    unfold cs3
    rw [idx_range, List.foldl_map]
  rw [ef] at e
  unfold bd__law_counts_3
  push_cast [lwR, iV, len_plugs, i1]
  exact e
theorem lw_bd4 (Q : KsOk s ks) {L : List LK} {n : Nat} {pre : Om} {x4 x5 x6 x7 x8 x9 x10 x11 : Option SV} (hn : n < s.length) (O : CkOk ks.length n L) :
    ∃ y4 y5 y6 y7 y8 y9 y10 y11, bd__law_counts_4 (lwR s ks L (iV n) x4 x5 x6 x7 x8 x9 x10 x11) pre = .next (lwR s ks (cs4 s ks L n) (iV n) y4 y5 y6 y7 y8 y9 y10 y11) (pre ++ [none]) := by
  have h9 := Q.s9
  obtain ⟨ρ', ω', e, O', y5, y6, y7, y8, y9, y10, y11, rfl, rfl⟩ := forL_fold (tg := gT 2 (gsCons (gN 5) (gsCons (gN 6) gsNil))) (b := bd__law_counts_3) keyD (cs3 s n ks) (fun L' ρ ω => CkOk ks.length (n + 1) L' ∧ ∃ x5 x6 x7 x8 x9 x10 x11, ρ = lwR s ks L (iV n) (some (.own pre.length)) x5 x6 x7 x8 x9 x10 x11 ∧ ω = pre ++ [some (.dcN (kD L'))])
    L L (lwR s ks L (iV n) (some (.own pre.length)) x5 x6 x7 x8 x9 x10 x11) (pre ++ [some (.dcN (kD L))]) ⟨O.mono (by omega), x5, x6, x7, x8, x9, x10, x11, rfl, rfl⟩ (by
    rintro L' k ρ ω hk ⟨O', x5, x6, x7, x8, x9, x10, x11, rfl, rfl⟩
    have h := O.ok k hk
    obtain ⟨y7, y8, y9, y10, y11, e⟩ := lw_bd3 Q (L0 := L) (k := k) (pre := pre) (x7 := x7) (x8 := x8) (x9 := x9) (x10 := x10) (x11 := x11) hn h.1 (show k.1.sum < n + 1 by omega) O' (by omega)
    exact ⟨_, _, _, rfl, e, cs3_ok Q hn h.1 (by omega) O', _, _, _, _, _, _, _, rfl, rfl⟩)
  refine ⟨some (.val (.dcN (kD (cs4 s ks L n)))), y5, y6, y7, y8, y9, y10, y11, ?_⟩
  have hit : (kD L).map (·.1) = L.map keyD := by unfold kD; rw [List.map_map]; rfl
  unfold bd__law_counts_4
  push_cast [lwR, iV, copyN_run (O.hash Q.m1 Q.m3 (by omega)), itNKeys_run, hit]
  have e' := e
  simp only [lwR, iV] at e'
  rw [e']
  push_cast []
  rw [sGf_own rfl (app_get' _ _), app_set]
  rfl
def cI (c : List Nat) : List Int := c.map fun n : Nat => (n : Int)
theorem tI_cI (c : List Nat) : tI (cI c) = cD c := by unfold tI cI cD; rw [List.map_map]; rfl
theorem cI_inj : ∀ {a b : List Nat}, cI a = cI b → a = b
  | [], [], _ => rfl
  | [], _ :: _, h => by cases h
  | _ :: _, [], h => by cases h
  | x :: a, y :: b, h => by
    have h : (x : Int) :: cI a = (y : Int) :: cI b := h
    injection h with h1 h2
    rw [cI_inj h2, show x = y by omega]
theorem ltI_cI : ∀ a b : List Nat, Sw.ltI (cI a) (cI b) = ltN a b
  | [], [] => rfl
  | [], _ :: _ => rfl
  | _ :: _, [] => rfl
  | x :: a, y :: b => by
    show (if (x : Int) = (y : Int) then Sw.ltI (cI a) (cI b) else decide ((x : Int) < (y : Int))) = if x = y then ltN a b else decide (x < y)
    rw [ltI_cI a b]
    by_cases h : x = y
    · rw [if_pos h, if_pos (by omega)]
    · rw [if_neg h, if_neg (by omega)]
      by_cases z : x < y
      · rw [decide_eq_true z, decide_eq_true (by omega)]
      · rw [decide_eq_false z, decide_eq_false (by omega)]
theorem once_len (L : List LK) : (onceI (L.map fun k => cI k.1)).length ≤ ((L.map (·.1)).foldl putC []).length := by
  have nd := onceI_nodup (L.map fun k => cI k.1)
  have sub : onceI (L.map fun k => cI k.1) ⊆ ((L.map (·.1)).foldl putC []).map cI := fun x hx => by
    obtain ⟨k, hk, rfl⟩ := List.mem_map.mp (onceI_mem.mp hx)
    exact List.mem_map_of_mem (foldC_mem.mpr (.inr (List.mem_map_of_mem hk)))
  have := List.Nodup.length_le_of_subset nd sub
  rwa [List.length_map] at this
theorem once_sort (L : List LK) : ((onceI (L.map fun k => cI k.1)).mergeSort Sw.leI).map tI = (((L.map (·.1)).foldl putC []).mergeSort leN).map cD := by
  have e : (onceI (L.map fun k => cI k.1)).mergeSort Sw.leI = (((L.map (·.1)).foldl putC []).mergeSort leN).map cI := by
    refine List.Perm.eq_of_pairwise (le := fun a b => Sw.leI a b = true) (fun a b _ _ h1 h2 => Sw.leI_anti h1 h2) (List.pairwise_mergeSort Sw.leI_trans Sw.leI_total _) ?_ ?_
    · refine List.pairwise_map.mpr ((List.pairwise_mergeSort leN_trans leN_total _).imp fun {a b} h => ?_)
      unfold Sw.leI
      rw [ltI_cI]
      exact h
    · refine (List.mergeSort_perm _ _).trans (List.Perm.trans ?_ ((List.mergeSort_perm _ _).map cI).symm)
      refine (List.perm_ext_iff_of_nodup (onceI_nodup _) ?_).mpr fun x => ?_
      · exact List.pairwise_map.mpr ((foldC_nodup (l := L.map (·.1)) List.nodup_nil).imp fun {a b} h z => h (cI_inj z))
      · rw [onceI_mem]
        constructor
        · intro hx
          obtain ⟨k, hk, rfl⟩ := List.mem_map.mp hx
          exact List.mem_map_of_mem (foldC_mem.mpr (.inr (List.mem_map_of_mem hk)))
        · intro hx
          obtain ⟨c, hc, rfl⟩ := List.mem_map.mp hx
          rcases foldC_mem.mp hc with z | z
          · cases z
          · obtain ⟨k, hk, rfl⟩ := List.mem_map.mp z
            exact List.mem_map.mpr ⟨k, hk, rfl⟩
  rw [e, List.map_map]
  exact List.map_congr_left fun c _ => tI_cI c
theorem law_counts_run (Q : KsOk s ks) : F__law_counts [socksD s, plugsD ks] = some (.ok (.lst (((cnts s ks).mergeSort leN).map cD))) := by
  have h9 := Q.s9
  have h3 := Q.m3
  have h1 := Q.m1
  have i1 : itR1 (.int (s.length : Int)) = some (rngD 0 (s.length : Int)) := itR1_run (by omega) (by omega)
  obtain ⟨ρ', ω', e, y3, y4, y5, y6, y7, y8, y9, y10, y11, rfl⟩ := forL_all (tg := gN 3) (b := bd__law_counts_4) (ds := rngD 0 (s.length : Int)) (ω := []) (ρ := lwR s ks (layC s ks 0) none none none none none none none none none)
    (fun m ρ ω => ∃ x3 x4 x5 x6 x7 x8 x9 x10 x11, ρ = lwR s ks (layC s ks m) x3 x4 x5 x6 x7 x8 x9 x10 x11)
    ⟨none, none, none, none, none, none, none, none, none, rfl⟩ (by
    rintro m d ρ ω hd ⟨x3, x4, x5, x6, x7, x8, x9, x10, x11, rfl⟩
    obtain ⟨rfl, hlt⟩ := rngD_get hd
    rw [show (0 : Int) + (m : Int) = (m : Int) by omega, layC_succ]
    have hm : m < s.length := by omega
    obtain ⟨y4, y5, y6, y7, y8, y9, y10, y11, e⟩ := lw_bd4 Q (n := m) (pre := ω) (x4 := x4) (x5 := x5) (x6 := x6) (x7 := x7) (x8 := x8) (x9 := x9) (x10 := x10) (x11 := x11) hm (layC_ok Q (by omega))
    exact ⟨_, _, _, rfl, e, _, _, _, _, _, _, _, _, _, rfl⟩)
  have hlen : (rngD 0 (s.length : Int)).length = s.length := by rw [rngD_len]; omega
  rw [hlen] at e
  have O := layC_ok Q (Nat.le_refl s.length)
  have hll := O.len h1 h3 h9
  have hit : (kD (layC s ks s.length)).map (·.1) = (layC s ks s.length).map keyD := by unfold kD; rw [List.map_map]; rfl
  have lc : ∀ ω : Om, lc__law_counts_5 (lwR s ks (layC s ks s.length) y3 y4 y5 y6 y7 y8 y9 y10 y11) ω = .ok (.lst ((layC s ks s.length).map fun k => tI (cI k.1))) ω := fun ω => by
    unfold lc__law_counts_5
    push_cast [lwR, itNKeys_run, hit]
    rw [lcT keyD (fun _ => true) (fun k => tI (cI k.1)) (layC s ks s.length) [] (by rw [List.length_nil]; show 0 + _ ≤ 16777216; omega)]
    · rw [List.nil_append, List.filter_eq_self.mpr fun _ _ => rfl]
    · intro k _
      refine ⟨_, rfl, rfl, fun _ => ?_⟩
      rw [tI_cI]
      rfl
  have so : oSortSetU (.lst ((layC s ks s.length).map fun k => tI (cI k.1))) = some (.lst (((cnts s ks).mergeSort leN).map cD)) := by
    have em : ((layC s ks s.length).map fun k => tI (cI k.1)) = ((layC s ks s.length).map fun k => cI k.1).map tI := by rw [List.map_map]; rfl
    have cl := cnts_len Q
    rw [cnts_eq] at cl
    rw [em, oSortSetU_run (fun x hx => ?_) (Nat.lt_of_le_of_lt (once_len _) (by omega)), once_sort, cnts_eq]
    obtain ⟨k, hk, rfl⟩ := List.mem_map.mp hx
    have := (O.ok k hk).1
    intro z
    have z2 : k.1 = [] := by unfold cI at z; exact List.map_eq_nil_iff.mp z
    rw [z2] at this
    simp at this
    omega
  have m1 : opMulA (.tup [.int 0]) (.int (ks.length : Int)) = some (.tup ((List.replicate ks.length 0).map nD)) := by
    have : ks.length = 1 ∨ ks.length = 2 ∨ ks.length = 3 := by omega
    rcases this with h | h | h <;> rw [h] <;> rfl
  have e0 : D.tup [.tup ((List.replicate ks.length 0).map nD), .int (-1000)] = keyD (List.replicate ks.length 0, -1000) := rfl
  have k0 : kD (layC s ks 0) = [(keyD (List.replicate ks.length 0, -1000), .bl true)] := rfl
  have ls := len_socks s
  have ng : opNeg (.int 1000) = some (.int (-1000)) := rfl
  unfold F__law_counts
  rw [fnP_run (by rfl)]
  unfold f__law_counts
  simp only [lwR] at e lc
  rw [k0] at e
  generalize hz : (List.replicate ks.length 0).map nD = Z at m1 e0
  generalize hK : keyD (List.replicate ks.length 0, -1000) = K0 at e e0
  have ik : isKey K0 = true := by rw [← hK]; exact isKey_key _
  generalize D.lst ((layC s ks s.length).map fun k => tI (cI k.1)) = LL at lc so
  push_cast [len_plugs, m1, ng, e0, ik, ls, i1, e, lc, so]
end
theorem maxC_sort (A : List (List Nat)) : (maxC A).mergeSort leN = maxC (A.mergeSort leN) := by
  have pm : (A.mergeSort leN).Perm A := List.mergeSort_perm A leN
  refine sort_eq ?_ ((List.pairwise_mergeSort leN_trans leN_total A).sublist List.filter_sublist)
  unfold maxC
  have e : ∀ c, ((A.mergeSort leN).filter fun o => !decide (o = c) && within c o).isEmpty = (A.filter fun o => !decide (o = c) && within c o).isEmpty := fun c => by
    have p2 := pm.filter fun o => !decide (o = c) && within c o
    have l := p2.length_eq
    cases h1 : (A.mergeSort leN).filter fun o => !decide (o = c) && within c o with
    | nil =>
      rw [h1] at l
      rw [List.eq_nil_of_length_eq_zero l.symm]
    | cons x r =>
      rw [h1] at l
      cases h2 : A.filter fun o => !decide (o = c) && within c o with
      | nil => rw [h2] at l; cases l
      | cons y q => rfl
  rw [List.filter_congr fun c _ => e c]
  exact (pm.filter _).symm
theorem fold_filter {α : Type} (p : Nat → α → Bool) : ∀ (l : List Nat) (A : List α), l.foldl (fun A j => A.filter (p j)) A = A.filter fun o => l.all fun j => p j o
  | [], A => (List.filter_eq_self.mpr fun _ _ => rfl).symm
  | j :: l, A => by
    rw [List.foldl_cons, fold_filter p l, List.filter_filter]
    refine List.filter_congr fun o _ => ?_
    rw [List.all_cons, Bool.and_comm]
theorem fold_keep {α : Type} (p : α → Bool) : ∀ (l A : List α), l.foldl (fun A c => if p c = true then A ++ [c] else A) A = A ++ l.filter p
  | [], A => by simp
  | c :: l, A => by
    rw [List.foldl_cons, fold_keep p l, List.filter_cons]
    cases p c with
    | true => simp
    | false => simp
theorem within_all {m : Nat} {c o : List Nat} (hc : c.length = m) (ho : o.length = m) : ((List.range m).all fun j => decide (c.getD j 0 ≤ o.getD j 0)) = within c o := by
  unfold within
  rw [Bool.eq_iff_iff, List.all_eq_true, List.all_eq_true]
  constructor
  · intro h z hz
    obtain ⟨j, hj⟩ := List.getElem?_of_mem hz
    have e := hj
    rw [List.getElem?_zip_eq_some] at e
    have := h j (List.mem_range.mpr (by have := (List.getElem?_eq_some_iff.mp e.1).1; omega))
    rw [List.getD_eq_getElem?_getD, List.getD_eq_getElem?_getD, e.1, e.2] at this
    exact this
  · intro h j hj
    have hj := List.mem_range.mp hj
    have e1 : c[j]? = some c[j] := List.getElem?_eq_getElem (by omega)
    have e2 : o[j]? = some o[j] := List.getElem?_eq_getElem (by omega)
    have ez : (c.zip o)[j]? = some (c[j], o[j]) := List.getElem?_zip_eq_some.mpr ⟨e1, e2⟩
    have := h (c[j], o[j]) (List.mem_of_getElem? ez)
    rw [List.getD_eq_getElem?_getD, List.getD_eq_getElem?_getD, e1, e2]
    exact this
section
variable {ns : List Int} {s : List Int} {ks : List Plug}
abbrev l30 (ns : List Int) (x2 x3 x4 x5 x6 x7 x8 x9 x10 x11 x12 x13 x14 x15 x16 : Option SV) : Rho := [some (.val (.lst (ns.map D.int))), some (.own 0), x2, x3, x4, x5, x6, x7, x8, x9, x10, x11, x12, x13, x14, x15, x16]
theorem lc30_1 {A : List (List Nat)} {c : List Nat} {x2 x5 x6 x7 x8 x9 x10 x11 x12 x13 x14 x15 x16 : Option SV} {ω : Om} (hl : A.length ≤ 1000) :
    lc_law_30_1 (l30 ns x2 (some (.val (cD c))) (some (.val (.lst (A.map cD)))) x5 x6 x7 x8 x9 x10 x11 x12 x13 x14 x15 x16) ω = .ok (.lst ((A.filter fun o => !decide (o = c)).map cD)) ω := by
  have it : itSeq (.lst (A.map cD)) = some (A.map cD) := rfl
  unfold lc_law_30_1
  simp only [l30]
  generalize D.lst (A.map cD) = AD at it ⊢
  push_cast [it]
  rw [lcT cD (fun o => !decide (o = c)) cD A [] (by rw [List.length_nil]; show _ ≤ 16777216; omega)]
  · rw [List.nil_append]
  · intro o _
    have ne := eqD_cD o c
    refine ⟨_, rfl, ?_, fun _ => rfl⟩
    generalize decide (o = c) = b at ne ⊢
    push_cast [ne]
theorem lc30_2 {A : List (List Nat)} {c : List Nat} {j : Nat} {x2 x4 x5 x6 x7 x8 x9 x10 x11 x12 x15 x16 : Option SV} {ω : Om} (hl : A.length ≤ 1000) (hc : j < c.length) (hA : ∀ o ∈ A, j < o.length) :
    lc_law_30_2 (l30 ns x2 (some (.val (cD c))) x4 x5 x6 x7 x8 x9 x10 x11 x12 (some (.val (.lst (A.map cD)))) (some (.val (nD j))) x15 x16) ω = .ok (.lst ((A.filter fun o => decide (c.getD j 0 ≤ o.getD j 0)).map cD)) ω := by
  have it : itSeq (.lst (A.map cD)) = some (A.map cD) := rfl
  have at_ : ∀ (o : List Nat), j < o.length → opIx (cD o) (.int (j : Int)) = some (.int ((o.getD j 0 : Nat) : Int)) := fun o ho => by
    unfold cD
    rw [opIx_tup]
    exact atI_map nD (by rw [List.getD_eq_getElem?_getD, List.getElem?_eq_getElem ho]; rfl)
  have e1 := at_ c hc
  unfold lc_law_30_2
  simp only [l30]
  generalize hC : cD c = C at e1 ⊢
  generalize D.lst (A.map cD) = AD at it ⊢
  push_cast [it]
  rw [lcT cD (fun o => decide (c.getD j 0 ≤ o.getD j 0)) cD A [] (by rw [List.length_nil]; show _ ≤ 16777216; omega)]
  · rw [List.nil_append]
  · intro o ho
    have e2 := at_ o (hA o ho)
    have e3 : decide (((c.getD j 0 : Nat) : Int) ≤ ((o.getD j 0 : Nat) : Int)) = decide (c.getD j 0 ≤ o.getD j 0) := by
      by_cases z : c.getD j 0 ≤ o.getD j 0
      · rw [decide_eq_true z, decide_eq_true (by omega)]
      · rw [decide_eq_false z, decide_eq_false (by omega)]
    refine ⟨_, rfl, ?_, fun _ => rfl⟩
    rw [← e3]
    generalize cD o = O at e2 ⊢
    push_cast [nD, e1, e2]
theorem bd30_3 {A : List (List Nat)} {c : List Nat} {j : Nat} {x2 x4 x5 x6 x7 x8 x9 x10 x11 x12 x15 x16 : Option SV} {ω : Om} (hl : A.length ≤ 1000) (hc : j < c.length) (hA : ∀ o ∈ A, j < o.length) :
    bd_law_30_3 (l30 ns x2 (some (.val (cD c))) x4 x5 x6 x7 x8 x9 x10 x11 x12 (some (.val (.lst (A.map cD)))) (some (.val (nD j))) x15 x16) ω = .next (l30 ns x2 (some (.val (cD c))) x4 x5 x6 x7 x8 x9 x10 x11 x12 (some (.val (.lst ((A.filter fun o => decide (c.getD j 0 ≤ o.getD j 0)).map cD)))) (some (.val (nD j))) x15 x16) ω := by
  have e := lc30_2 (ns := ns) (x2 := x2) (x4 := x4) (x5 := x5) (x6 := x6) (x7 := x7) (x8 := x8) (x9 := x9) (x10 := x10) (x11 := x11) (x12 := x12) (x15 := x15) (x16 := x16) (ω := ω) hl hc hA
  simp only [l30] at e ⊢
  unfold bd_law_30_3
  generalize D.lst ((A.filter fun o => decide (c.getD j 0 ≤ o.getD j 0)).map cD) = R at e ⊢
  push_cast [e]
abbrev test30 (E : List (List Nat)) (c : List Nat) : Bool := (E.filter fun o => !decide (o = c) && within c o).isEmpty
theorem bd30_4 {E D0 : List (List Nat)} {c : List Nat} {row : Option OD} {x5 x6 x7 x8 x9 x10 x12 x13 x14 x15 x16 : Option SV} (h3 : ks.length ≤ 3) (hE : E.length ≤ 1000) (hD : D0.length ≤ 1000) (ho : ∀ o ∈ E, o.length = ks.length) (hc : c.length = ks.length) :
    ∃ y13 y14, bd_law_30_4 (l30 ns (some (.own 1)) (some (.val (cD c))) (some (.val (.lst (E.map cD)))) x5 x6 x7 x8 x9 x10 (some (.val (plugsD ks))) x12 x13 x14 x15 x16) [row, some (.lst (D0.map cD))] =
      .next (l30 ns (some (.own 1)) (some (.val (cD c))) (some (.val (.lst (E.map cD)))) x5 x6 x7 x8 x9 x10 (some (.val (plugsD ks))) x12 y13 y14 x15 x16) [row, some (.lst ((if test30 E c = true then D0 ++ [c] else D0).map cD))] := by
  have e1 := lc30_1 (ns := ns) (A := E) (c := c) (x2 := some (.own 1)) (x5 := x5) (x6 := x6) (x7 := x7) (x8 := x8) (x9 := x9) (x10 := x10) (x11 := some (.val (plugsD ks))) (x12 := x12) (x13 := x13) (x14 := x14) (x15 := x15) (x16 := x16) (ω := [row, some (.lst (D0.map cD))]) hE
  have i1 : itR1 (.int (ks.length : Int)) = some ((List.range ks.length).map nD) := by rw [itR1_run (by omega) (by omega), rng_nD]
  obtain ⟨ρ', ω', e, hA, hl, y14, rfl, rfl⟩ := forL_fold (tg := gN 14) (b := bd_law_30_3) nD (fun A j => A.filter fun o => decide (c.getD j 0 ≤ o.getD j 0)) (fun A ρ ω => (∀ o ∈ A, o ∈ E) ∧ A.length ≤ 1000 ∧ ∃ x14, ρ = l30 ns (some (.own 1)) (some (.val (cD c))) (some (.val (.lst (E.map cD)))) x5 x6 x7 x8 x9 x10 (some (.val (plugsD ks))) x12 (some (.val (.lst (A.map cD)))) x14 x15 x16 ∧ ω = [row, some (.lst (D0.map cD))])
    (List.range ks.length) (E.filter fun o => !decide (o = c)) (l30 ns (some (.own 1)) (some (.val (cD c))) (some (.val (.lst (E.map cD)))) x5 x6 x7 x8 x9 x10 (some (.val (plugsD ks))) x12 (some (.val (.lst ((E.filter fun o => !decide (o = c)).map cD)))) x14 x15 x16) [row, some (.lst (D0.map cD))]
    ⟨fun o h => (List.mem_filter.mp h).1, Nat.le_trans (List.length_filter_le _ _) hE, x14, rfl, rfl⟩ (by
    rintro A j ρ ω hj ⟨h1, h2, x14, rfl, rfl⟩
    have hj := List.mem_range.mp hj
    refine ⟨_, _, _, rfl, bd30_3 (ns := ns) h2 (by omega) (fun o h => by have := ho o (h1 o h); omega), fun o h => h1 o (List.mem_filter.mp h).1, Nat.le_trans (List.length_filter_le _ _) h2, _, rfl, rfl⟩)
  rw [fold_filter (fun j (o : List Nat) => decide (c.getD j 0 ≤ o.getD j 0)), List.filter_filter] at e
  have ef : (E.filter fun o => ((List.range ks.length).all fun j => decide (c.getD j 0 ≤ o.getD j 0)) && !decide (o = c)) = E.filter fun o => !decide (o = c) && within c o := List.filter_congr fun o h => by
    rw [within_all hc (ho o h), Bool.and_comm]
  rw [ef] at e
  refine ⟨some (.val (.lst ((E.filter fun o => !decide (o = c) && within c o).map cD))), y14, ?_⟩
  have q := eq_nil_cDs (E.filter fun o => !decide (o = c) && within c o)
  have ld : (D0.map cD).length < lim := by rw [List.length_map]; show _ < 16777216; omega
  have ap : D0.map cD ++ [cD c] = (D0 ++ [c]).map cD := by rw [List.map_append]; rfl
  have tt : test30 E c = (E.filter fun o => !decide (o = c) && within c o).isEmpty := rfl
  rw [tt]
  unfold bd_law_30_4
  simp only [l30] at e1 e ⊢
  obtain ⟨bb, hbb⟩ : ∃ bb, (E.filter fun o => !decide (o = c) && within c o).isEmpty = bb := ⟨_, rfl⟩
  rw [hbb] at q ⊢
  obtain ⟨R1, hR1⟩ : ∃ R1, D.lst ((E.filter fun o => !decide (o = c) && within c o).map cD) = R1 := ⟨_, rfl⟩
  obtain ⟨R2, hR2⟩ : ∃ R2, D.lst ((E.filter fun o => !decide (o = c)).map cD) = R2 := ⟨_, rfl⟩
  rw [hR1] at e q ⊢
  rw [hR2] at e1 e
  cases bb with
  | true =>
    rw [if_pos rfl, ← ap]
    obtain ⟨DD, hDD⟩ : ∃ DD, D0.map cD = DD := ⟨_, rfl⟩
    rw [hDD] at e1 e ld ⊢
    clear hA hl hR1 hR2 hDD
    push_cast [e1, len_plugs, i1, e, q, ld]
  | false =>
    rw [if_neg Bool.false_ne_true]
    clear hA hl hR1 hR2
    push_cast [e1, len_plugs, i1, e, q]
theorem due30 {E : List (List Nat)} {row : Option OD} {x3 x5 x6 x7 x8 x9 x10 x12 x13 x14 x15 x16 : Option SV} (h3 : ks.length ≤ 3) (hE : E.length ≤ 500) (ho : ∀ o ∈ E, o.length = ks.length) :
    ∃ y3 y13 y14, forL (gN 3) bd_law_30_4 (E.map cD) (l30 ns (some (.own 1)) x3 (some (.val (.lst (E.map cD)))) x5 x6 x7 x8 x9 x10 (some (.val (plugsD ks))) x12 x13 x14 x15 x16) [row, some (.lst [])] =
      .next (l30 ns (some (.own 1)) y3 (some (.val (.lst (E.map cD)))) x5 x6 x7 x8 x9 x10 (some (.val (plugsD ks))) x12 y13 y14 x15 x16) [row, some (.lst ((maxC E).map cD))] := by
  obtain ⟨ρ', ω', e, hj, y3, y13, y14, rfl, rfl⟩ := forL_foldI (tg := gN 3) (b := bd_law_30_4) cD (fun D0 c => if test30 E c = true then D0 ++ [c] else D0) (fun j D0 ρ ω => D0.length ≤ j ∧ ∃ x3 x13 x14, ρ = l30 ns (some (.own 1)) x3 (some (.val (.lst (E.map cD)))) x5 x6 x7 x8 x9 x10 (some (.val (plugsD ks))) x12 x13 x14 x15 x16 ∧ ω = [row, some (.lst (D0.map cD))])
    E 0 [] (l30 ns (some (.own 1)) x3 (some (.val (.lst (E.map cD)))) x5 x6 x7 x8 x9 x10 (some (.val (plugsD ks))) x12 x13 x14 x15 x16) [row, some (.lst [])] ⟨Nat.zero_le _, x3, x13, x14, rfl, rfl⟩ (by
    rintro j D0 c ρ ω hc hj ⟨h1, x3, x13, x14, rfl, rfl⟩
    obtain ⟨y13, y14, e⟩ := bd30_4 (ns := ns) (ks := ks) (E := E) (D0 := D0) (c := c) (row := row) (x5 := x5) (x6 := x6) (x7 := x7) (x8 := x8) (x9 := x9) (x10 := x10) (x12 := x12) (x13 := x13) (x14 := x14) (x15 := x15) (x16 := x16) h3 (by omega) (by omega) ho (ho c hc)
    refine ⟨_, _, _, rfl, e, ?_, _, _, _, rfl, rfl⟩
    split
    · rw [List.length_append]; show D0.length + 1 ≤ _; omega
    · omega)
  rw [fold_keep (test30 E), List.nil_append] at e
  exact ⟨y3, y13, y14, e⟩
end
end Pk
namespace Pk
open PySem Dl L2
local macro_rules
  | `(tactic| push_cast [$xs,*]) => `(tactic| simp -implicitDefEqProofs only [↓eC_run, ↓eVar_run, ↓eSlot_run, ↓eBin_run, ↓eUn_run, ↓eTest_run, ↓eAndT_run, ↓eOrT_run, ↓eNotT_run, ↓eTrue_run, ↓eAnd_run, ↓eOr_run, ↓eNot_run, ↓eIf_run, ↓aNil_run, ↓aCons_run, ↓aVal_run, ↓eTup_run, ↓eList_run, ↓eLst_run, ↓eCallB_run, ↓eOnL_run, ↓eIsi_run, ↓eSl_run, ↓ePart_run, ↓eNoPart_run, ↓eChain_run, ↓eIxO_run, ↓eOwnL_run, ↓sNext_run, ↓sSeq_run, ↓sIf_run, ↓sExpr_run, ↓sRet_run, ↓sRetS_run, ↓sRetN_run, ↓sBreak_run, ↓sCont_run, ↓sAsg_run, ↓sSetS_run, ↓sPar_run, ↓sFor_run, ↓sWhile_run, ↓eIt1_run, ↓eIt2_run, ↓eIt3_run, ↓eLc_run, ↓eLc2_run, ↓sNewL_run, ↓sApp_run, ↓sSetIx_run, ↓sRetL_run, ↓sRetNew_run, ↓eCallP_run, ↓eCallE_run, ↓eVal_run, ↓eMake_run, ↓eFld_run, ↓sRaise_run, ↓sRaiseI_run, ↓sTry_run, ↓eIsx_run, ↓sPar3_run, ↓eNewL_run, ↓eNDisp_run, ↓eKDisp_run, ↓eEmptyK_run, ↓eNewN_run, ↓eKM_run, ↓eNGet_run, ↓eKGet_run, ↓eNGetO_run, ↓eCopyN_run, ↓sNPut_run, ↓aStar_run, ↓eRg1_run, ↓eIsi2_run, ↓eCopyL_run, ↓eNVals_run, ↓eBinO_run, ↓eSortSetU_run, bind_ok, bind_exc, out_ok, out_exc, lift_some, obind_next, obind_ret, obind_exc, obind_brk, obind_cont, varR_run, slotR_run, asBl_run, allD_nil, allD_cons, asLst_run, asI_run, chR_run, ownK_run, ownKR_run, ownL_run, ownLR_run, someR_run, someO_run, ixI_run, parR_run, gN_run, gsNil_run, gsCons_run, itSeq_lst, itSeq_tup, itEn_lst, itEn_tup, itZ_lst, itZ_tup, wipeR_nil, wipeR_cons, setIxR_run, finP_ret, finP_next, finP_exc, finE_ret, finE_next, finE_exc, callR_ok, callR_err, valR_run, makeR_ok, makeR_exc, opAdd_int, opI_run, opB_run, opMulA_int, opEq_run, opNe_run, opIsN_run, opNotN_run, opIx_tup, opIx_lst, opNeg_run, oLen_tup, oLen_lst, oInt_int, oInt_bl, oTuple_tup, oTuple_lst, oList_tup, oList_lst, oTupleL_run, oListL_run, oLenL_run, isi_int_non, isi_int_bl, isi_int_int, isi_int_str, isi_int_tup, isi_int_lst, isi_bool_non, isi_bool_bl, isi_bool_int, isi_bool_str, isi_bool_tup, isi_bool_lst, isi_tuple_non, isi_tuple_bl, isi_tuple_int, isi_tuple_str, isi_tuple_tup, isi_tuple_lst, isi_str_non, isi_str_bl, isi_str_int, isi_str_str, isi_str_tup, isi_str_lst, isi_list_non, isi_list_bl, isi_list_int, isi_list_str, isi_list_tup, isi_list_lst, atI_0, atI_1, atI_2, atI_3, atI_4, atI_5, atI_6, atI_7, atI_8, ixN_1_0, ixN_2_0, ixN_2_1, ixN_3_0, ixN_3_1, ixN_3_2, ixN_4_0, ixN_4_1, ixN_4_2, ixN_4_3, ixN_5_0, ixN_5_1, ixN_5_2, ixN_5_3, ixN_5_4, eqD_int, eqD_bl, eqD_non_non, isNon_non, isNon_bl, isNon_int, isNon_str, isNon_tup, isNon_lst, Option.map_some, Option.map_none, Option.bind_some, List.getElem?_cons_zero, List.getElem?_cons_succ, List.set_cons_zero, List.set_cons_succ, List.map_cons, List.map_nil, List.length_cons, List.length_nil, List.cons_append, List.nil_append, rho0, List.replicate, List.take_succ_cons, List.take_zero, List.take_nil, List.take_length, and_self, Bool.false_eq_true, Bool.not_true, Bool.not_false, decide_true, decide_false, raiseI_run1, raiseI_run2, tryO_next, tryO_ret, tryH_nil, unbind_next, unbind_ret, eXf_run, par3R_run, newLR_0, newLR_1, kmR_run, kmR2_run, asK_run, asN_run, getRL_run, getKL_run, ngo0_run, ngo1_run, ngoR_run, ownN_run, ownNR_run, npK_run, starR_run, itNItems_run, itNKeys_run, oDictK_run, opIn2_K, opKIx_run, keyK_int, copyLR_lst, copyLR_tup, gT2_run, nValsD_run, Option.getD_some, tup_0, lst_0, tup_1, lst_1, tup_2, lst_2, tup_3, lst_3, tup_4, lst_4, tup_5, lst_5, tup_6, lst_6, tup_7, lst_7, tup_8, lst_8, tup_9, lst_9, tup_10, lst_10, tup_11, lst_11, tup_12, lst_12, new_0, new_1, new_2, new_3, new_4, new_5, ↓reduceIte, Nat.reduceAdd, $xs,*])
  | `(tactic| push_cast [$xs,*] at $h:ident) => `(tactic| simp -implicitDefEqProofs only [↓eC_run, ↓eVar_run, ↓eSlot_run, ↓eBin_run, ↓eUn_run, ↓eTest_run, ↓eAndT_run, ↓eOrT_run, ↓eNotT_run, ↓eTrue_run, ↓eAnd_run, ↓eOr_run, ↓eNot_run, ↓eIf_run, ↓aNil_run, ↓aCons_run, ↓aVal_run, ↓eTup_run, ↓eList_run, ↓eLst_run, ↓eCallB_run, ↓eOnL_run, ↓eIsi_run, ↓eSl_run, ↓ePart_run, ↓eNoPart_run, ↓eChain_run, ↓eIxO_run, ↓eOwnL_run, ↓sNext_run, ↓sSeq_run, ↓sIf_run, ↓sExpr_run, ↓sRet_run, ↓sRetS_run, ↓sRetN_run, ↓sBreak_run, ↓sCont_run, ↓sAsg_run, ↓sSetS_run, ↓sPar_run, ↓sFor_run, ↓sWhile_run, ↓eIt1_run, ↓eIt2_run, ↓eIt3_run, ↓eLc_run, ↓eLc2_run, ↓sNewL_run, ↓sApp_run, ↓sSetIx_run, ↓sRetL_run, ↓sRetNew_run, ↓eCallP_run, ↓eCallE_run, ↓eVal_run, ↓eMake_run, ↓eFld_run, ↓sRaise_run, ↓sRaiseI_run, ↓sTry_run, ↓eIsx_run, ↓sPar3_run, ↓eNewL_run, ↓eNDisp_run, ↓eKDisp_run, ↓eEmptyK_run, ↓eNewN_run, ↓eKM_run, ↓eNGet_run, ↓eKGet_run, ↓eNGetO_run, ↓eCopyN_run, ↓sNPut_run, ↓aStar_run, ↓eRg1_run, ↓eIsi2_run, ↓eCopyL_run, ↓eNVals_run, ↓eBinO_run, ↓eSortSetU_run, bind_ok, bind_exc, out_ok, out_exc, lift_some, obind_next, obind_ret, obind_exc, obind_brk, obind_cont, varR_run, slotR_run, asBl_run, allD_nil, allD_cons, asLst_run, asI_run, chR_run, ownK_run, ownKR_run, ownL_run, ownLR_run, someR_run, someO_run, ixI_run, parR_run, gN_run, gsNil_run, gsCons_run, itSeq_lst, itSeq_tup, itEn_lst, itEn_tup, itZ_lst, itZ_tup, wipeR_nil, wipeR_cons, setIxR_run, finP_ret, finP_next, finP_exc, finE_ret, finE_next, finE_exc, callR_ok, callR_err, valR_run, makeR_ok, makeR_exc, opAdd_int, opI_run, opB_run, opMulA_int, opEq_run, opNe_run, opIsN_run, opNotN_run, opIx_tup, opIx_lst, opNeg_run, oLen_tup, oLen_lst, oInt_int, oInt_bl, oTuple_tup, oTuple_lst, oList_tup, oList_lst, oTupleL_run, oListL_run, oLenL_run, isi_int_non, isi_int_bl, isi_int_int, isi_int_str, isi_int_tup, isi_int_lst, isi_bool_non, isi_bool_bl, isi_bool_int, isi_bool_str, isi_bool_tup, isi_bool_lst, isi_tuple_non, isi_tuple_bl, isi_tuple_int, isi_tuple_str, isi_tuple_tup, isi_tuple_lst, isi_str_non, isi_str_bl, isi_str_int, isi_str_str, isi_str_tup, isi_str_lst, isi_list_non, isi_list_bl, isi_list_int, isi_list_str, isi_list_tup, isi_list_lst, atI_0, atI_1, atI_2, atI_3, atI_4, atI_5, atI_6, atI_7, atI_8, ixN_1_0, ixN_2_0, ixN_2_1, ixN_3_0, ixN_3_1, ixN_3_2, ixN_4_0, ixN_4_1, ixN_4_2, ixN_4_3, ixN_5_0, ixN_5_1, ixN_5_2, ixN_5_3, ixN_5_4, eqD_int, eqD_bl, eqD_non_non, isNon_non, isNon_bl, isNon_int, isNon_str, isNon_tup, isNon_lst, Option.map_some, Option.map_none, Option.bind_some, List.getElem?_cons_zero, List.getElem?_cons_succ, List.set_cons_zero, List.set_cons_succ, List.map_cons, List.map_nil, List.length_cons, List.length_nil, List.cons_append, List.nil_append, rho0, List.replicate, List.take_succ_cons, List.take_zero, List.take_nil, List.take_length, and_self, Bool.false_eq_true, Bool.not_true, Bool.not_false, decide_true, decide_false, raiseI_run1, raiseI_run2, tryO_next, tryO_ret, tryH_nil, unbind_next, unbind_ret, eXf_run, par3R_run, newLR_0, newLR_1, kmR_run, kmR2_run, asK_run, asN_run, getRL_run, getKL_run, ngo0_run, ngo1_run, ngoR_run, ownN_run, ownNR_run, npK_run, starR_run, itNItems_run, itNKeys_run, oDictK_run, opIn2_K, opKIx_run, keyK_int, copyLR_lst, copyLR_tup, gT2_run, nValsD_run, Option.getD_some, tup_0, lst_0, tup_1, lst_1, tup_2, lst_2, tup_3, lst_3, tup_4, lst_4, tup_5, lst_5, tup_6, lst_6, tup_7, lst_7, tup_8, lst_8, tup_9, lst_9, tup_10, lst_10, tup_11, lst_11, tup_12, lst_12, new_0, new_1, new_2, new_3, new_4, new_5, ↓reduceIte, Nat.reduceAdd, $xs,*] at $h:ident)
theorem holds_plg {S P C : D} {x : Exn} (h : F_check_plugs_2 [P, .int 3] = some (.error x)) : F_holds [S, P, C] = some (.error x) := by
  unfold F_holds
  rw [fnP_run (by rfl)]
  unfold f_holds
  push_cast [h]
theorem full_plg {S P : D} {x : Exn} (h : F_check_plugs_2 [P, .int 3] = some (.error x)) : F_fullest [S, P] = some (.error x) := by
  unfold F_fullest
  rw [fnP_run (by rfl)]
  unfold f_fullest
  push_cast [h]
abbrev w7R (S P C : D) : Rho := [some (.val S), some (.val P), some (.val C), some (.val .non), none]
theorem tr7_h {S P C : D} {x : Exn} (hq : eqD C (.str "fullest") = some false) (h : F_holds [S, P, C] = some (.error x)) : tr__law_wrong_7_1 (w7R S P C) [] = .exc x (w7R S P C) [] := by
  unfold tr__law_wrong_7_1
  push_cast [w7R, hq, h]
theorem tr7_f {S P C : D} {x : Exn} (hq : eqD C (.str "fullest") = some true) (h : F_fullest [S, P] = some (.error x)) : tr__law_wrong_7_1 (w7R S P C) [] = .exc x (w7R S P C) [] := by
  unfold tr__law_wrong_7_1
  push_cast [w7R, hq, h]
theorem w7_plugs {S P C d : D} (t : tr__law_wrong_7_1 (w7R S P C) [] = .exc (badPlugs d) (w7R S P C) []) : F__law_wrong_7 [S, P, C] = some (.ok (.lst [.str "plugs", d])) := by
  unfold F__law_wrong_7; rw [fnP_run (by rfl)]; unfold f__law_wrong_7
  have s1 : subX "BadPlugs" "BadPlugs" = true := by decide +kernel
  have s2 : subX "BadPlugs" "StripError" = true := by decide +kernel
  simp only [w7R] at t
  push_cast [t]
  rw [tryO_exc (c := "BadPlugs"), tryH_yes s1]
  · push_cast [s2, List.lookup, beq_self_eq_true]
  · decide +kernel
  · show 4 < 5; decide
theorem w7_counts {S P C : D} (t : tr__law_wrong_7_1 (w7R S P C) [] = .exc (bare "BadCounts") (w7R S P C) []) : F__law_wrong_7 [S, P, C] = some (.ok (.str "counts")) := by
  unfold F__law_wrong_7; rw [fnP_run (by rfl)]; unfold f__law_wrong_7
  have s1 : subX "BadCounts" "BadPlugs" = false := by decide +kernel
  have s2 : subX "BadCounts" "BadCounts" = true := by decide +kernel
  have s3 : subX "BadCounts" "StripError" = true := by decide +kernel
  simp only [w7R] at t
  push_cast [t]
  rw [tryO_exc (c := "BadCounts"), tryH_no s1, tryH_yes s2]
  · push_cast [s3]
  · decide +kernel
  · show 4 < 5; decide
theorem nonF : eqD .non (.str "fullest") = some false := by decide +kernel
theorem both7 {S P C d : D} (hC : C ∈ [D.non, .str "fullest"]) (h : F_check_plugs_2 [P, .int 3] = some (.error (badPlugs d))) : F__law_wrong_7 [S, P, C] = some (.ok (.lst [.str "plugs", d])) := by
  simp only [List.mem_cons, List.not_mem_nil, or_false] at hC
  rcases hC with rfl | rfl
  · exact w7_plugs (tr7_h nonF (holds_plg h))
  · exact w7_plugs (tr7_f (eqD_refl 3 (by decide +kernel) (by decide)) (full_plg h))
theorem four30 : F_check_plugs_2 [.tup (List.replicate 4 (.tup [.int 0, .int 0, .bl true])), .int 3] = some (.error (badPlugs .non)) := rfl
theorem eqD_fullT {n : Nat} {ds : List D} (h : dOk n (.tup ds) = true) (hn : n ≤ 64) : eqD (.tup ds) (.str "fullest") = some false := by
  obtain ⟨p, h1, h2, h3⟩ := toPy_ok n _ h
  unfold eqD
  rw [h1, show toPy (.str "fullest") = some (.str "fullest") from rfl]
  have hs : SeqAt.shaped p = true := by unfold SeqAt.shaped; rw [h2, Bool.true_and, decide_eq_true_eq]; omega
  dsimp only
  rw [hs, show SeqAt.shaped (.str "fullest") = true from by decide +kernel]
  rw [toPy] at h1
  cases u : toPys ds with
  | none => rw [u] at h1; cases h1
  | some y => rw [u] at h1; cases h1; simp [PyData.eqv]
theorem eqD_fullL {n : Nat} {ds : List D} (h : dOk n (.lst ds) = true) (hn : n ≤ 64) : eqD (.lst ds) (.str "fullest") = some false := by
  obtain ⟨p, h1, h2, h3⟩ := toPy_ok n _ h
  unfold eqD
  rw [h1, show toPy (.str "fullest") = some (.str "fullest") from rfl]
  have hs : SeqAt.shaped p = true := by unfold SeqAt.shaped; rw [h2, Bool.true_and, decide_eq_true_eq]; omega
  dsimp only
  rw [hs, show SeqAt.shaped (.str "fullest") = true from by decide +kernel]
  rw [toPy] at h1
  cases u : toPys ds with
  | none => rw [u] at h1; cases h1
  | some y => rw [u] at h1; cases h1; simp [PyData.eqv]
def badC : List D := [.int 10, .int (-1), .bl true, .non, .str "1"]
def fr9 : D → Bool
  | .int v => decide (0 ≤ v ∧ v ≤ 9)
  | _ => false
theorem fr9_nD {x : Nat} (h : x ≤ 9) : F_is_from [nD x, .int 0, .int 9] = some (.ok (.bl (fr9 (nD x)))) := by
  show F_is_from [.int (x : Int), .int 0, .int 9] = some (.ok (.bl (decide (0 ≤ (x : Int) ∧ (x : Int) ≤ 9))))
  exact is_from_run (x : Int) 0 9
theorem fr9_bad {b : D} (h : b ∈ badC) : F_is_from [b, .int 0, .int 9] = some (.ok (.bl (fr9 b))) ∧ fr9 b = false ∧ dOk 1 b = true := by
  unfold badC at h
  simp only [List.mem_cons, List.not_mem_nil, or_false] at h
  rcases h with rfl | rfl | rfl | rfl | rfl
  · exact ⟨rfl, rfl, rfl⟩
  · exact ⟨rfl, rfl, rfl⟩
  · exact ⟨rfl, rfl, rfl⟩
  · exact ⟨rfl, rfl, rfl⟩
  · exact ⟨rfl, rfl, by decide +kernel⟩
theorem dOk_nD (n : Nat) (x : Nat) : dOk n (nD x) = true := by cases n <;> rfl
section
variable {s : List Int} {ks : List Plug}
theorem h_notT {S V : D} (ck : F_check_plugs_2 [plugsD ks, .int 3] = some (.ok .non)) (hv : isiD "tuple" V = some (.bl false)) : F_holds [S, plugsD ks, V] = some (.error (bare "BadCounts")) := by
  unfold F_holds; rw [fnP_run (by rfl)]; unfold f_holds
  push_cast [ck, hv]
theorem h_len {S : D} {ds : List D} (ck : F_check_plugs_2 [plugsD ks, .int 3] = some (.ok .non)) (hl : ds.length ≠ ks.length) : F_holds [S, plugsD ks, .tup ds] = some (.error (bare "BadCounts")) := by
  unfold F_holds; rw [fnP_run (by rfl)]; unfold f_holds
  have e1 : ((ds.length : Int) == (ks.length : Int)) = false := by rw [beq_eq_false_iff_ne]; omega
  push_cast [ck, len_plugs, e1]
theorem h_item {S b : D} {pre post : List D} (ck : F_check_plugs_2 [plugsD ks, .int 3] = some (.ok .non)) (hb : b ∈ badC) (hp : ∀ d ∈ pre ++ post, ∃ x : Nat, x ≤ 9 ∧ d = nD x) (hl : (pre ++ [b] ++ post).length = ks.length) (h3 : ks.length ≤ 3) : F_holds [S, plugsD ks, .tup (pre ++ [b] ++ post)] = some (.error (bare "BadCounts")) := by
  obtain ⟨b1, b2, _⟩ := fr9_bad hb
  have it : itSeq (.tup (pre ++ [b] ++ post)) = some (pre ++ [b] ++ post) := rfl
  have e1 : ((((pre ++ [b] ++ post).length : Nat) : Int) == (ks.length : Int)) = true := by rw [beq_iff_eq]; omega
  have tu := isi_tuple_tup (pre ++ [b] ++ post)
  have ol := oLen_tup (ds := pre ++ [b] ++ post)
  have lc : ∀ ω, lc_holds_1 [some (SV.val (S)), some (SV.val (plugsD ks)), some (SV.val (.tup (pre ++ [b] ++ post))), none] ω = .ok (.lst ((pre ++ [b] ++ post).map fun d => .bl (fr9 d))) ω := fun ω => by
    unfold lc_holds_1
    push_cast [it]
    refine lcL_bools fr9 (by rw [hl]; show _ ≤ 16777216; omega) fun d hd => ⟨_, rfl, ?_⟩
    have f : F_is_from [d, .int 0, .int 9] = some (.ok (.bl (fr9 d))) := by
      have : d = b ∨ d ∈ pre ++ post := by
        simp only [List.mem_append, List.mem_singleton] at hd ⊢
        rcases hd with (h | h) | h
        · exact .inr (.inl h)
        · exact .inl h
        · exact .inr (.inr h)
      rcases this with rfl | h
      · exact b1
      · obtain ⟨x, hx, rfl⟩ := hp d h
        exact fr9_nD hx
    push_cast [f]
  have al := all_mapQ fr9 (pre ++ [b] ++ post)
  have af : (pre ++ [b] ++ post).all fr9 = false := by
    rw [List.all_eq_false]
    exact ⟨b, by simp, by rw [b2]; exact Bool.false_ne_true⟩
  rw [af] at al
  obtain ⟨L, hL⟩ : ∃ L, pre ++ [b] ++ post = L := ⟨_, rfl⟩
  rw [hL] at it e1 tu ol lc al ⊢
  unfold F_holds; rw [fnP_run (by rfl)]; unfold f_holds
  push_cast [ck, tu, ol, len_plugs, e1, lc, al]
theorem odd7 (Q : KsOk s ks) {c : List Nat} {k : Nat} {b V : D} (hc : c.length = ks.length) (h9 : ∀ x ∈ c, x ≤ 9) (hk : k < c.length) (hb : b ∈ badC)
    (hV : V ∈ [D.non, .lst (c.map nD), .tup (c.map nD ++ [.int 0]), .tup ((c.map nD).drop 1), .tup ([.int 10] ++ (c.map nD).drop 1), .tup ([.int (-1)] ++ (c.map nD).drop 1), .tup ([.bl true] ++ (c.map nD).drop 1),
      .tup ((c.map nD).take k ++ [b] ++ (c.map nD).drop (k + 1)), .tup ((c.map nD).take k ++ [b] ++ (c.map nD).drop (k + 1)), .tup ((c.map nD).take k ++ [b] ++ (c.map nD).drop (k + 1)), .tup ((c.map nD).take k ++ [b] ++ (c.map nD).drop (k + 1)), .tup ((c.map nD).take k ++ [b] ++ (c.map nD).drop (k + 1))]) :
    F__law_wrong_7 [stripD s, plugsD ks, V] = some (.ok (.str "counts")) := by
  have h1 := Q.m1
  have h3 := Q.m3
  have ck := check_plugs_ok2 Q.pl Q.ne (most := 3) (by omega)
  have mm : ∀ d ∈ c.map nD, ∃ x : Nat, x ≤ 9 ∧ d = nD x := fun d hd => by
    obtain ⟨x, hx, rfl⟩ := List.mem_map.mp hd
    exact ⟨x, h9 x hx, rfl⟩
  have ok : ∀ l : List D, (∀ d ∈ l, dOk 1 d = true) → dOk 2 (.tup l) = true := fun l h => by
    rw [dOk, List.all_eq_true]; exact h
  have okL : ∀ l : List D, (∀ d ∈ l, dOk 1 d = true) → dOk 2 (.lst l) = true := fun l h => by
    rw [dOk, List.all_eq_true]; exact h
  have okm : ∀ d ∈ c.map nD, dOk 1 d = true := fun d hd => by
    obtain ⟨x, _, rfl⟩ := mm d hd
    exact dOk_nD 1 x
  have item : ∀ (pre post : List D) (b : D), b ∈ badC → (∀ d ∈ pre ++ post, d ∈ c.map nD) → (pre ++ [b] ++ post).length = ks.length → F__law_wrong_7 [stripD s, plugsD ks, .tup (pre ++ [b] ++ post)] = some (.ok (.str "counts")) := fun pre post b hb hp hl => by
    refine w7_counts (tr7_h (eqD_fullT (n := 2) (ok _ fun d hd => ?_) (by decide)) (h_item ck hb (fun d hd => mm d (hp d hd)) hl h3))
    simp only [List.mem_append, List.mem_singleton] at hd
    rcases hd with (h | h) | h
    · exact okm d (hp d (List.mem_append_left _ h))
    · rw [h]; exact (fr9_bad hb).2.2
    · exact okm d (hp d (List.mem_append_right _ h))
  have head : ∀ b : D, b ∈ badC → F__law_wrong_7 [stripD s, plugsD ks, .tup ([b] ++ (c.map nD).drop 1)] = some (.ok (.str "counts")) := fun b hb =>
    item [] ((c.map nD).drop 1) b hb (fun d hd => List.mem_of_mem_drop hd) (by
      simp only [List.nil_append, List.length_append, List.length_cons, List.length_nil, List.length_drop, List.length_map]; omega)
  have last := item ((c.map nD).take k) ((c.map nD).drop (k + 1)) b hb (fun d hd => by
    rcases List.mem_append.mp hd with h | h
    · exact List.mem_of_mem_take h
    · exact List.mem_of_mem_drop h) (by
    simp only [List.length_append, List.length_cons, List.length_nil, List.length_take, List.length_drop, List.length_map]; omega)
  simp only [List.mem_cons, List.not_mem_nil, or_false] at hV
  rcases hV with rfl | rfl | rfl | rfl | rfl | rfl | rfl | rfl | rfl | rfl | rfl | rfl
  · exact w7_counts (tr7_h nonF (h_notT ck rfl))
  · exact w7_counts (tr7_h (eqD_fullL (n := 2) (okL _ okm) (by decide)) (h_notT ck (isi_tuple_lst _)))
  · refine w7_counts (tr7_h (eqD_fullT (n := 2) (ok _ fun d hd => ?_) (by decide)) (h_len ck (by simp only [List.length_append, List.length_map, List.length_cons, List.length_nil]; omega)))
    rcases List.mem_append.mp hd with h | h
    · exact okm d h
    · rw [List.mem_singleton.mp h]; rfl
  · exact w7_counts (tr7_h (eqD_fullT (n := 2) (ok _ fun d hd => okm d (List.mem_of_mem_drop hd)) (by decide)) (h_len ck (by simp only [List.length_drop, List.length_map]; omega)))
  · exact head _ (by unfold badC; simp)
  · exact head _ (by unfold badC; simp)
  · exact head _ (by unfold badC; simp)
  · exact last
  · exact last
  · exact last
  · exact last
  · exact last
theorem lc30_5 {ns : List Int} {rest ω : Om} (w : IsRow ns rest ω) (h3 : ks.length ≤ 3) {x2 x3 x4 x5 x6 x7 x8 x9 x10 x12 x13 x14 x15 x16 : Option SV} :
    ∃ (c : List Nat) (ω' : Om), c.length = ks.length ∧ (∀ x ∈ c, x ≤ 9) ∧ IsRow ns rest ω' ∧ lc_law_30_5 (l30 ns x2 x3 x4 x5 x6 x7 x8 x9 x10 (some (.val (plugsD ks))) x12 x13 x14 x15 x16) ω = .ok (.lst (c.map nD)) ω' := by
  obtain ⟨ys, ω1, e, w1, hl, hy⟩ := lcL_draw (tg := gN 14) (tt := eTrue) (el := eVal (eCallE F__law_pick (aCons (eSlot 1) (aCons (aVal (eC (.int 4))) aNil)))) (ρ := l30 ns x2 x3 x4 x5 x6 x7 x8 x9 x10 (some (.val (plugsD ks))) x12 x13 none x15 x16) (IsRow ns rest) (fun y => ∃ n : Nat, y = nD n ∧ n ≤ 9)
    (ks.map encP) [] ω w (by rw [List.length_map, List.length_nil]; show _ ≤ 16777216; omega) (fun d _ ω w => by
      obtain ⟨r, ω', w', a, b, e⟩ := pick (m := 4) w (by decide) (by decide)
      obtain ⟨k, rfl⟩ : ∃ k : Nat, r = k := ⟨r.toNat, by omega⟩
      refine ⟨_, .int (k : Int), ω', rfl, rfl, ?_, w', k, rfl, by omega⟩
      push_cast [l30, e])
  obtain ⟨c, rfl, h9⟩ := enc_list nD (fun n => n ≤ 9) ys hy
  rw [List.length_map, List.length_map] at hl
  refine ⟨c, ω1, hl, h9, w1, ?_⟩
  have it : itSeq (plugsD ks) = some (ks.map encP) := rfl
  rw [List.nil_append] at e
  simp only [l30] at e ⊢
  unfold lc_law_30_5
  push_cast [it]
  exact e
theorem bd30_6 {ns : List Int} (Q : KsOk s ks) {E : List (List Nat)} (hE : ∀ c, c ∈ E ↔ c ∈ cnts s ks) {rest ω : Om} (w : IsRow ns rest ω) {x2 x3 x5 x6 x7 x8 x9 x10 x13 x14 x15 x16 : Option SV} :
    ∃ (c : List Nat) (ω' : Om), c.length = ks.length ∧ (∀ x ∈ c, x ≤ 9) ∧ IsRow ns rest ω' ∧ bd_law_30_6 (l30 ns x2 x3 (some (.val (.lst (E.map cD)))) x5 x6 x7 x8 x9 x10 (some (.val (plugsD ks))) (some (.val (stripD s))) x13 x14 x15 x16) ω =
      .next (l30 ns x2 (some (.val (cD c))) (some (.val (.lst (E.map cD)))) x5 x6 x7 x8 x9 x10 (some (.val (plugsD ks))) (some (.val (stripD s))) x13 x14 x15 x16) ω' := by
  obtain ⟨c, ω', h1, h2, w', e⟩ := lc30_5 (ks := ks) w Q.m3 (x2 := x2) (x3 := x3) (x4 := some (.val (.lst (E.map cD)))) (x5 := x5) (x6 := x6) (x7 := x7) (x8 := x8) (x9 := x9) (x10 := x10) (x12 := some (.val (stripD s))) (x13 := x13) (x14 := x14) (x15 := x15) (x16 := x16)
  refine ⟨c, ω', h1, h2, w', ?_⟩
  have hd := holds_run Q h1 h2
  have hi : opInD false (cD c) (.lst (E.map cD)) = some (.bl (decide (c ∈ E))) := inD_tD (neg := false)
  have hs : decide (c ∈ cnts s ks) = decide (c ∈ E) := by
    by_cases h : c ∈ E
    · rw [decide_eq_true h, decide_eq_true ((hE c).mp h)]
    · rw [decide_eq_false h, decide_eq_false fun z => h ((hE c).mpr z)]
  rw [hs] at hd
  obtain ⟨B, hB⟩ : ∃ B, decide (c ∈ E) = B := ⟨_, rfl⟩
  rw [hB] at hd hi
  have eq : eqD (.bl B) (.bl B) = some true := eqD_refl 1 rfl (by decide)
  have tu : oTuple [.lst (c.map nD)] = some (cD c) := rfl
  simp only [l30] at e ⊢
  obtain ⟨EE, hEE⟩ : ∃ EE, D.lst (E.map cD) = EE := ⟨_, rfl⟩
  rw [hEE] at hi e ⊢
  obtain ⟨CC, hCC⟩ : ∃ CC, D.lst (c.map nD) = CC := ⟨_, rfl⟩
  rw [hCC] at e tu
  obtain ⟨C, hC⟩ : ∃ C, cD c = C := ⟨_, rfl⟩
  rw [hC] at hd hi tu ⊢
  unfold bd_law_30_6
  clear hB hs hEE hCC hC
  push_cast [e, tu, hd, hi, eq]
end
theorem addL7 {a b c d e f g x : D} : opAdd (.lst [a, b, c, d, e, f, g]) (.lst [x, x, x, x, x]) = some (.lst [a, b, c, d, e, f, g, x, x, x, x, x]) := rfl
theorem mulL5 {x : D} : opMulB (.lst [x]) (.int 5) = some (.lst [x, x, x, x, x]) := rfl
theorem mulT4 : opMulA (.tup [.tup [.int 0, .int 0, .bl true]]) (.int 4) = some (.tup (List.replicate 4 (.tup [.int 0, .int 0, .bl true]))) := rfl
theorem law_true_30 (ns : List Int) : F_law_30 [.lst (ns.map D.int)] = some (.ok (.bl true)) := by
  obtain ⟨s, ω1, w1, hS, hs6, e1⟩ := sockets (most := 6) (draws_row ns) (by decide) (by decide)
  have e1' : F__law_sockets [.own 0, .val (.int 6)] [some (.lst (rowD ns 0 0 7))] = .ok (.val (socksD s)) ω1 := e1
  obtain ⟨ks, ω2, w2, hp1, hp0, hp3, e2⟩ := plugs (most := 3) w1 (by decide) (by decide)
  have hpp : 0 < ks.length := List.length_pos_iff.mpr hp0
  have h3 : ks.length ≤ 3 := by omega
  have Q : KsOk s ks := ⟨hS.rg, hp1, by omega, by omega, by omega⟩
  have m1 := strip_init2 hS (by omega)
  have st : D.obj "Strip" [("rows", socksD s)] = stripD s := rfl
  have lw := law_counts_run Q
  have fu0 := fullest_run Q
  rw [maxC_sort] at fu0
  obtain ⟨E, hE⟩ : ∃ E, (cnts s ks).mergeSort leN = E := ⟨_, rfl⟩
  have pm : E.Perm (cnts s ks) := hE ▸ List.mergeSort_perm _ _
  have hEl : E.length ≤ 220 := by rw [pm.length_eq]; exact cnts_len Q
  have hEm : ∀ c, c ∈ E ↔ c ∈ cnts s ks := fun c => pm.mem_iff
  have hEo : ∀ o ∈ E, o.length = ks.length := fun o ho => (cnts_ok Q ((hEm o).mp ho)).1
  rw [hE] at lw fu0
  have fu : F_fullest [stripD s, plugsD ks] = some (.ok (.lst ((maxC E).map cD))) := fu0
  clear fu0 hE pm
  obtain ⟨a, b, c0, kk, rfl⟩ := w2
  obtain ⟨y3, y13, y14, ed⟩ := due30 (ns := ns) (ks := ks) (E := E) (row := some (.lst (rowD ns a b c0))) (x3 := none) (x5 := none) (x6 := none) (x7 := none) (x8 := none) (x9 := none) (x10 := some (.val (socksD s))) (x12 := some (.val (stripD s))) (x13 := none) (x14 := none) (x15 := none) (x16 := none) h3 (by omega) hEo
  have qd : eqD (.lst ((maxC E).map cD)) (.lst ((maxC E).map cD)) = some true := eqD_refl 3 (dOk_cDs _) (by decide)
  have h4 : itR1 (.int 4) = some (rngD 0 4) := itR1_run (by decide) (by decide)
  obtain ⟨ρ', ω3, et, z3, y5, hz, w3, rfl⟩ := forL_all (tg := gN 5) (b := bd_law_30_6) (ds := rngD 0 4) (ω := [some (.lst (rowD ns a b c0)), some (.lst ((maxC E).map cD))]) (ρ := l30 ns (some (.own 1)) y3 (some (.val (.lst (E.map cD)))) none none none none none (some (.val (socksD s))) (some (.val (plugsD ks))) (some (.val (stripD s))) y13 y14 none none)
    (fun i ρ ω => (∃ x3 x5, (0 < i → ∃ c : List Nat, c.length = ks.length ∧ (∀ x ∈ c, x ≤ 9) ∧ x3 = some (.val (cD c))) ∧ IsRow ns [some (.lst ((maxC E).map cD))] ω ∧ ρ = l30 ns (some (.own 1)) x3 (some (.val (.lst (E.map cD)))) x5 none none none none (some (.val (socksD s))) (some (.val (plugsD ks))) (some (.val (stripD s))) y13 y14 none none))
    ⟨y3, none, fun h => absurd h (by decide), ⟨a, b, c0, kk, rfl⟩, rfl⟩ (by
    rintro i d ρ ω hd ⟨x3, x5, _, w, rfl⟩
    obtain ⟨c, ω', h1, h2, w', e⟩ := bd30_6 (ns := ns) Q hEm w (x2 := some (.own 1)) (x3 := x3) (x5 := some (.val d)) (x6 := none) (x7 := none) (x8 := none) (x9 := none) (x10 := some (.val (socksD s))) (x13 := y13) (x14 := y14) (x15 := none) (x16 := none)
    exact ⟨_, _, ω', rfl, e, _, _, fun _ => ⟨c, h1, h2, rfl⟩, w', rfl⟩)
  obtain ⟨c, hc, h9, rfl⟩ := hz (by rw [rngD_len]; decide)
  -- the odd ones
  obtain ⟨r4, ω4, w4, a4, b4, e4⟩ := pick (m := (c.length : Int)) w3 (by omega) (by omega)
  obtain ⟨k, rfl⟩ : ∃ k : Nat, r4 = k := ⟨r4.toNat, by omega⟩
  have hk : k < c.length := by omega
  obtain ⟨r5, ω5, w5, a5, b5, e5⟩ := pick (m := 5) w4 (by decide) (by decide)
  obtain ⟨b, hb, e5'⟩ := atI_mem (xs := badC) a5 b5
  unfold badC at e5'
  obtain ⟨r6, ω6, w6, a6, b6, e6⟩ := pick (m := 12) w5 (by decide) (by decide)
  obtain ⟨V, hV, e6'⟩ := atI_mem (xs := [D.non, .lst (c.map nD), .tup (c.map nD ++ [.int 0]), .tup ((c.map nD).drop 1), .tup ([.int 10] ++ (c.map nD).drop 1), .tup ([.int (-1)] ++ (c.map nD).drop 1), .tup ([.bl true] ++ (c.map nD).drop 1),
      .tup ((c.map nD).take k ++ [b] ++ (c.map nD).drop (k + 1)), .tup ((c.map nD).take k ++ [b] ++ (c.map nD).drop (k + 1)), .tup ((c.map nD).take k ++ [b] ++ (c.map nD).drop (k + 1)), .tup ((c.map nD).take k ++ [b] ++ (c.map nD).drop (k + 1)), .tup ((c.map nD).take k ++ [b] ++ (c.map nD).drop (k + 1))]) a6 b6
  have t1 := odd7 Q hc h9 hk hb hV
  have n1 : eqD (.str "counts") (.str "counts") = some true := eqD_refl 3 (by decide +kernel) (by decide)
  have lc : oLen [cD c] = some (.int (c.length : Int)) := by unfold cD; rw [oLen_tup, List.length_map]
  have l1 : oList [cD c] = some (.lst (c.map nD)) := rfl
  have g1 : opAdd (cD c) (.tup [.int 0]) = some (.tup (c.map nD ++ [.int 0])) := opAdd_tup (by
    simp only [List.length_map, List.length_cons, List.length_nil]; show _ ≤ 16777216; omega)
  have g2 : slD (some 1) none (cD c) = some (.tup ((c.map nD).drop 1)) := cut1 _
  have g3 : ∀ x : D, opAdd (.tup [x]) (.tup ((c.map nD).drop 1)) = some (.tup ([x] ++ (c.map nD).drop 1)) := fun x => opAdd_tup (by
    simp only [List.length_drop, List.length_map, List.length_cons, List.length_nil]; show _ ≤ 16777216; omega)
  have g4 : slD none (some (k : Int)) (cD c) = some (.tup ((c.map nD).take k)) := cut_lo _ _
  have g5 : slD (some ((k : Int) + 1)) none (cD c) = some (.tup ((c.map nD).drop (k + 1))) := cut_hi _ _
  have g6 : opAdd (.tup ((c.map nD).take k)) (.tup [b]) = some (.tup ((c.map nD).take k ++ [b])) := opAdd_tup (by
    simp only [List.length_take, List.length_map, List.length_cons, List.length_nil]; show _ ≤ 16777216; omega)
  have g7 : opAdd (.tup ((c.map nD).take k ++ [b])) (.tup ((c.map nD).drop (k + 1))) = some (.tup ((c.map nD).take k ++ [b] ++ (c.map nD).drop (k + 1))) := opAdd_tup (by
    simp only [List.length_append, List.length_take, List.length_drop, List.length_map, List.length_cons, List.length_nil]; show _ ≤ 16777216; omega)
  -- the wrong kinds
  obtain ⟨r7, ω7, w7, a7, b7, e7⟩ := pick (m := (ks.length : Int)) w6 (by omega) (by omega)
  obtain ⟨j, rfl⟩ : ∃ j : Nat, r7 = j := ⟨r7.toNat, by omega⟩
  have hj : j < ks.length := by omega
  obtain ⟨o8, ω8, w8, h8, e8⟩ := odd_plug w7
  obtain ⟨r9, ω9, w9, a9, b9, e9⟩ := pick (m := 2) w8 (by decide) (by decide)
  obtain ⟨C9, hC9, e9'⟩ := atI_mem (xs := [D.non, .str "fullest"]) a9 b9
  have t2 := both7 (S := stripD s) hC9 (wrong_badN (most := 3) hp1 (by omega) hj h8)
  have t3 := both7 (S := stripD s) hC9 four30
  have n2 : eqD (.lst [.str "plugs", .int (j : Int)]) (.lst [.str "plugs", .int (j : Int)]) = some true := eqD_refl 3 (dOk_pl _) (by decide)
  have n3 : eqD (.lst [.str "plugs", .non]) (.lst [.str "plugs", .non]) = some true := eqD_refl 3 (by decide +kernel) (by decide)
  have q1 : slD none (some (j : Int)) (plugsD ks) = some (.tup ((ks.map encP).take j)) := cut_lo _ _
  have q2 : slD (some ((j : Int) + 1)) none (plugsD ks) = some (.tup ((ks.map encP).drop (j + 1))) := cut_hi _ _
  have d1 : opAdd (.tup ((ks.map encP).take j)) (.tup [o8]) = some (.tup ((ks.map encP).take j ++ [o8])) := opAdd_tup (by
    simp only [List.length_take, List.length_map, List.length_cons, List.length_nil]; show _ ≤ 16777216; omega)
  have d2 : opAdd (.tup ((ks.map encP).take j ++ [o8])) (.tup ((ks.map encP).drop (j + 1))) = some (.tup ((ks.map encP).take j ++ [o8] ++ (ks.map encP).drop (j + 1))) := opAdd_tup (by
    simp only [List.length_append, List.length_take, List.length_drop, List.length_map, List.length_cons, List.length_nil]; show _ ≤ 16777216; omega)
  have m4 := mulT4
  clear hV hb hEm hEo Q hC9
  obtain ⟨T4, hT4⟩ : ∃ T4, D.tup (List.replicate 4 (.tup [.int 0, .int 0, .bl true])) = T4 := ⟨_, rfl⟩
  rw [hT4] at t3 m4
  clear hT4
  obtain ⟨X1, hX1⟩ : ∃ X, D.lst (c.map nD) = X := ⟨_, rfl⟩
  obtain ⟨X2, hX2⟩ : ∃ X, D.tup (c.map nD ++ [.int 0]) = X := ⟨_, rfl⟩
  obtain ⟨X3, hX3⟩ : ∃ X, D.tup ((c.map nD).drop 1) = X := ⟨_, rfl⟩
  have g31 := g3 (.int 10)
  have g32 := g3 (.int (-1))
  have g33 := g3 (.bl true)
  obtain ⟨X4, hX4⟩ : ∃ X, D.tup ([.int 10] ++ (c.map nD).drop 1) = X := ⟨_, rfl⟩
  obtain ⟨X5, hX5⟩ : ∃ X, D.tup ([.int (-1)] ++ (c.map nD).drop 1) = X := ⟨_, rfl⟩
  obtain ⟨X6, hX6⟩ : ∃ X, D.tup ([.bl true] ++ (c.map nD).drop 1) = X := ⟨_, rfl⟩
  obtain ⟨X7, hX7⟩ : ∃ X, D.tup ((c.map nD).take k ++ [b] ++ (c.map nD).drop (k + 1)) = X := ⟨_, rfl⟩
  rw [hX4, hX3] at g31
  rw [hX5, hX3] at g32
  rw [hX6, hX3] at g33
  rw [hX1] at l1
  rw [hX2] at g1
  rw [hX3] at g2
  rw [hX7] at g7
  rw [hX1, hX2, hX3, hX4, hX5, hX6, hX7] at e6'
  clear g3 hX1 hX2 hX3 hX4 hX5 hX6 hX7
  obtain ⟨CC, hCC⟩ : ∃ X, cD c = X := ⟨_, rfl⟩
  rw [hCC] at lc l1 g1 g2 g4 g5 et
  obtain ⟨EE, hEE⟩ : ∃ X, E.map cD = X := ⟨_, rfl⟩
  obtain ⟨MM, hMM⟩ : ∃ X, (maxC E).map cD = X := ⟨_, rfl⟩
  simp only [l30] at ed et
  rw [hEE] at lw ed et
  rw [hMM] at fu ed et qd
  have it : itSeq (.lst EE) = some EE := rfl
  clear hCC hEE hMM
  unfold F_law_30
  rw [fnP_run (by rfl)]
  unfold f_law_30
  push_cast [draws_run, e1', e2, m1, st, lw, it, ed, fu, qd, h4, et, l1, g1, g2, g31, g32, g33, lc, e4, e5, e5', g4, g5, g6, g7, mulL5, addL7, e6, e6', t1, n1, len_plugs, e7, q1, q2, e8, d1, d2, e9, e9', t2, n2, m4, t3, n3]
end Pk
namespace K12
open PySem L2 Dl
def topS (i : Nat) : Stmt := PySem.Challenge.pw_plugstrip_k12_numbers_of_kinds.main.body.getD i (.Pass ⟨0, 0, 0, 0⟩)
abbrev s_BadPlugs_d__init_d_ : Stmt := inClass (topS 4) 0
abbrev N_BadPlugs_d__init_d_ : List Str := ["self", "index"]
theorem sc_BadPlugs_d__init_d_ : FnScope N_BadPlugs_d__init_d_ ["self", "index"] (defScope s_BadPlugs_d__init_d_) := ⟨rfl, rfl, rfl, by decide +kernel, rfl, by decide +kernel, by decide +kernel⟩
abbrev s__law_draws : Stmt := topS 25
abbrev N__law_draws : List Str := ["_law_script"]
theorem sc__law_draws : FnScope N__law_draws ["_law_script"] (defScope s__law_draws) := ⟨rfl, rfl, rfl, by decide +kernel, rfl, by decide +kernel, by decide +kernel⟩
abbrev s__law_pick : Stmt := topS 26
abbrev N__law_pick : List Str := ["_law_row", "_law_many", "_law_found", "_law_cell"]
theorem sc__law_pick : FnScope N__law_pick ["_law_row", "_law_many"] (defScope s__law_pick) := ⟨rfl, rfl, rfl, by decide +kernel, rfl, by decide +kernel, by decide +kernel⟩
abbrev s__law_sockets : Stmt := topS 27
abbrev N__law_sockets : List Str := ["_law_row", "_law_most", "_law_k", "_law_found", "_law_here"]
theorem sc__law_sockets : FnScope N__law_sockets ["_law_row", "_law_most"] (defScope s__law_sockets) := ⟨rfl, rfl, rfl, by decide +kernel, rfl, by decide +kernel, by decide +kernel⟩
abbrev s__law_plug : Stmt := topS 28
abbrev N__law_plug : List Str := ["_law_row", "_law_left", "_law_right"]
theorem sc__law_plug : FnScope N__law_plug ["_law_row"] (defScope s__law_plug) := ⟨rfl, rfl, rfl, by decide +kernel, rfl, by decide +kernel, by decide +kernel⟩
abbrev s__law_plugs : Stmt := topS 29
abbrev N__law_plugs : List Str := ["_law_row", "_law_most", "_law_k"]
theorem sc__law_plugs : FnScope N__law_plugs ["_law_row", "_law_most"] (defScope s__law_plugs) := ⟨rfl, rfl, rfl, by decide +kernel, rfl, by decide +kernel, by decide +kernel⟩
abbrev s_is_from : Stmt := topS 9
abbrev N_is_from : List Str := ["value", "low", "high"]
theorem sc_is_from : FnScope N_is_from ["value", "low", "high"] (defScope s_is_from) := ⟨rfl, rfl, rfl, by decide +kernel, rfl, by decide +kernel, by decide +kernel⟩
abbrev s_Strip_d__init_d_ : Stmt := inClass (topS 10) 0
abbrev N_Strip_d__init_d_ : List Str := ["self", "sockets", "one", "other"]
theorem sc_Strip_d__init_d_ : FnScope N_Strip_d__init_d_ ["self", "sockets"] (defScope s_Strip_d__init_d_) := ⟨rfl, rfl, rfl, by decide +kernel, rfl, by decide +kernel, by decide +kernel⟩
abbrev s__law_body : Stmt := topS 31
abbrev N__law_body : List Str := ["_law_sockets_here", "_law_plug_here", "_law_place", "_law_left", "_law_right"]
theorem sc__law_body : FnScope N__law_body ["_law_sockets_here", "_law_plug_here", "_law_place"] (defScope s__law_body) := ⟨rfl, rfl, rfl, by decide +kernel, rfl, by decide +kernel, by decide +kernel⟩
abbrev s__law_can : Stmt := topS 30
abbrev N__law_can : List Str := ["_law_plug_here"]
theorem sc__law_can : FnScope N__law_can ["_law_plug_here"] (defScope s__law_can) := ⟨rfl, rfl, rfl, by decide +kernel, rfl, by decide +kernel, by decide +kernel⟩
abbrev s__law_counts : Stmt := topS 33
abbrev N__law_counts : List Str := ["_law_sockets_here", "_law_kinds", "_law_rows", "_law_k", "_law_longer", "_law_counts_here", "_law_end", "_law_j", "_law_turned", "_law_begin", "_law_more", "_law_later"]
theorem sc__law_counts : FnScope N__law_counts ["_law_sockets_here", "_law_kinds"] (defScope s__law_counts) := ⟨rfl, rfl, rfl, by decide +kernel, rfl, by decide +kernel, by decide +kernel⟩
abbrev s_is_plug : Stmt := topS 11
abbrev N_is_plug : List Str := ["value", "one"]
theorem sc_is_plug : FnScope N_is_plug ["value"] (defScope s_is_plug) := ⟨rfl, rfl, rfl, by decide +kernel, rfl, by decide +kernel, by decide +kernel⟩
abbrev s_check_plugs : Stmt := topS 12
abbrev N_check_plugs : List Str := ["value", "most", "index", "plug"]
theorem sc_check_plugs : FnScope N_check_plugs ["value", "most"] (defScope s_check_plugs) := ⟨rfl, rfl, rfl, by decide +kernel, rfl, by decide +kernel, by decide +kernel⟩
abbrev s_can_turn : Stmt := topS 13
abbrev N_can_turn : List Str := ["plug"]
theorem sc_can_turn : FnScope N_can_turn ["plug"] (defScope s_can_turn) := ⟨rfl, rfl, rfl, by decide +kernel, rfl, by decide +kernel, by decide +kernel⟩
abbrev s_stands_of : Stmt := topS 15
abbrev N_stands_of : List Str := ["plug"]
theorem sc_stands_of : FnScope N_stands_of ["plug"] (defScope s_stands_of) := ⟨rfl, rfl, rfl, by decide +kernel, rfl, by decide +kernel, by decide +kernel⟩
abbrev s_sides : Stmt := topS 14
abbrev N_sides : List Str := ["plug", "turned"]
theorem sc_sides : FnScope N_sides ["plug", "turned"] (defScope s_sides) := ⟨rfl, rfl, rfl, by decide +kernel, rfl, by decide +kernel, by decide +kernel⟩
abbrev s_body : Stmt := topS 16
abbrev N_body : List Str := ["strip", "plug", "place", "left", "right"]
theorem sc_body : FnScope N_body ["strip", "plug", "place"] (defScope s_body) := ⟨rfl, rfl, rfl, by decide +kernel, rfl, by decide +kernel, by decide +kernel⟩
abbrev s_all_counts : Stmt := topS 20
abbrev N_all_counts : List Str := ["strip", "kinds", "layer", "socket", "later", "counts", "end", "index", "plug", "turned", "begin", "more"]
theorem sc_all_counts : FnScope N_all_counts ["strip", "kinds"] (defScope s_all_counts) := ⟨rfl, rfl, rfl, by decide +kernel, rfl, by decide +kernel, by decide +kernel⟩
abbrev s_is_within : Stmt := topS 21
abbrev N_is_within : List Str := ["one", "other", "first", "second"]
theorem sc_is_within : FnScope N_is_within ["one", "other"] (defScope s_is_within) := ⟨rfl, rfl, rfl, by decide +kernel, rfl, by decide +kernel, by decide +kernel⟩
abbrev s_fullest : Stmt := topS 22
abbrev N_fullest : List Str := ["strip", "kinds", "every", "found", "counts", "other"]
theorem sc_fullest : FnScope N_fullest ["strip", "kinds"] (defScope s_fullest) := ⟨rfl, rfl, rfl, by decide +kernel, rfl, by decide +kernel, by decide +kernel⟩
abbrev s_holds : Stmt := topS 23
abbrev N_holds : List Str := ["strip", "kinds", "counts", "count"]
theorem sc_holds : FnScope N_holds ["strip", "kinds", "counts"] (defScope s_holds) := ⟨rfl, rfl, rfl, by decide +kernel, rfl, by decide +kernel, by decide +kernel⟩
abbrev s__law_wrong : Stmt := topS 34
abbrev N__law_wrong : List Str := ["_law_strip", "_law_kinds", "_law_counts_here", "_law_told_there", "e"]
theorem sc__law_wrong : FnScope N__law_wrong ["_law_strip", "_law_kinds", "_law_counts_here"] (defScope s__law_wrong) := ⟨rfl, rfl, rfl, by decide +kernel, rfl, by decide +kernel, by decide +kernel⟩
abbrev s__law_odd_plug : Stmt := topS 32
abbrev N__law_odd_plug : List Str := ["_law_row", "_law_odd"]
theorem sc__law_odd_plug : FnScope N__law_odd_plug ["_law_row"] (defScope s__law_odd_plug) := ⟨rfl, rfl, rfl, by decide +kernel, rfl, by decide +kernel, by decide +kernel⟩
abbrev s_law : Stmt := topS 35
abbrev N_law : List Str := ["_law_script", "_law_row", "_law_due", "_law_counts_here", "_law_every", "_law_turn", "_law_odd", "_law_spot", "_law_wrong_here", "_law_both", "_law_sockets_here", "_law_kinds", "_law_strip", "_law_more", "_law_k", "_law_bad", "_law_one"]
theorem sc_law : FnScope N_law ["_law_script"] (defScope s_law) := ⟨rfl, rfl, rfl, by decide +kernel, rfl, by decide +kernel, by decide +kernel⟩
structure Env (K : PySem.W.Frag) (mg : MG) where
  a_BadPlugs_d__init_d_ : Addr
  d_BadPlugs_d__init_d_ : FuncData
  h_BadPlugs_d__init_d_ : DefAt K "__init__" "BadPlugs.__init__" s_BadPlugs_d__init_d_ a_BadPlugs_d__init_d_ d_BadPlugs_d__init_d_ ["self", "index"]
  a__law_draws : Addr
  d__law_draws : FuncData
  h__law_draws : DefAt K "_law_draws" "_law_draws" s__law_draws a__law_draws d__law_draws ["_law_script"]
  l__law_draws : mg "_law_draws" = some (.ref a__law_draws)
  a__law_pick : Addr
  d__law_pick : FuncData
  h__law_pick : DefAt K "_law_pick" "_law_pick" s__law_pick a__law_pick d__law_pick ["_law_row", "_law_many"]
  l__law_pick : mg "_law_pick" = some (.ref a__law_pick)
  a__law_sockets : Addr
  d__law_sockets : FuncData
  h__law_sockets : DefAt K "_law_sockets" "_law_sockets" s__law_sockets a__law_sockets d__law_sockets ["_law_row", "_law_most"]
  l__law_sockets : mg "_law_sockets" = some (.ref a__law_sockets)
  a__law_plug : Addr
  d__law_plug : FuncData
  h__law_plug : DefAt K "_law_plug" "_law_plug" s__law_plug a__law_plug d__law_plug ["_law_row"]
  l__law_plug : mg "_law_plug" = some (.ref a__law_plug)
  a__law_plugs : Addr
  d__law_plugs : FuncData
  h__law_plugs : DefAt K "_law_plugs" "_law_plugs" s__law_plugs a__law_plugs d__law_plugs ["_law_row", "_law_most"]
  l__law_plugs : mg "_law_plugs" = some (.ref a__law_plugs)
  a_is_from : Addr
  d_is_from : FuncData
  h_is_from : DefAt K "is_from" "is_from" s_is_from a_is_from d_is_from ["value", "low", "high"]
  l_is_from : mg "is_from" = some (.ref a_is_from)
  a_Strip_d__init_d_ : Addr
  d_Strip_d__init_d_ : FuncData
  h_Strip_d__init_d_ : DefAt K "__init__" "Strip.__init__" s_Strip_d__init_d_ a_Strip_d__init_d_ d_Strip_d__init_d_ ["self", "sockets"]
  a__law_body : Addr
  d__law_body : FuncData
  h__law_body : DefAt K "_law_body" "_law_body" s__law_body a__law_body d__law_body ["_law_sockets_here", "_law_plug_here", "_law_place"]
  l__law_body : mg "_law_body" = some (.ref a__law_body)
  a__law_can : Addr
  d__law_can : FuncData
  h__law_can : DefAt K "_law_can" "_law_can" s__law_can a__law_can d__law_can ["_law_plug_here"]
  l__law_can : mg "_law_can" = some (.ref a__law_can)
  a__law_counts : Addr
  d__law_counts : FuncData
  h__law_counts : DefAt K "_law_counts" "_law_counts" s__law_counts a__law_counts d__law_counts ["_law_sockets_here", "_law_kinds"]
  l__law_counts : mg "_law_counts" = some (.ref a__law_counts)
  a_is_plug : Addr
  d_is_plug : FuncData
  h_is_plug : DefAt K "is_plug" "is_plug" s_is_plug a_is_plug d_is_plug ["value"]
  l_is_plug : mg "is_plug" = some (.ref a_is_plug)
  a_check_plugs : Addr
  d_check_plugs : FuncData
  h_check_plugs : DefAt K "check_plugs" "check_plugs" s_check_plugs a_check_plugs d_check_plugs ["value", "most"]
  l_check_plugs : mg "check_plugs" = some (.ref a_check_plugs)
  a_can_turn : Addr
  d_can_turn : FuncData
  h_can_turn : DefAt K "can_turn" "can_turn" s_can_turn a_can_turn d_can_turn ["plug"]
  l_can_turn : mg "can_turn" = some (.ref a_can_turn)
  a_stands_of : Addr
  d_stands_of : FuncData
  h_stands_of : DefAt K "stands_of" "stands_of" s_stands_of a_stands_of d_stands_of ["plug"]
  l_stands_of : mg "stands_of" = some (.ref a_stands_of)
  a_sides : Addr
  d_sides : FuncData
  h_sides : DefAt K "sides" "sides" s_sides a_sides d_sides ["plug", "turned"]
  l_sides : mg "sides" = some (.ref a_sides)
  a_body : Addr
  d_body : FuncData
  h_body : DefAt K "body" "body" s_body a_body d_body ["strip", "plug", "place"]
  l_body : mg "body" = some (.ref a_body)
  a_all_counts : Addr
  d_all_counts : FuncData
  h_all_counts : DefAt K "all_counts" "all_counts" s_all_counts a_all_counts d_all_counts ["strip", "kinds"]
  l_all_counts : mg "all_counts" = some (.ref a_all_counts)
  a_is_within : Addr
  d_is_within : FuncData
  h_is_within : DefAt K "is_within" "is_within" s_is_within a_is_within d_is_within ["one", "other"]
  l_is_within : mg "is_within" = some (.ref a_is_within)
  a_fullest : Addr
  d_fullest : FuncData
  h_fullest : DefAt K "fullest" "fullest" s_fullest a_fullest d_fullest ["strip", "kinds"]
  l_fullest : mg "fullest" = some (.ref a_fullest)
  a_holds : Addr
  d_holds : FuncData
  h_holds : DefAt K "holds" "holds" s_holds a_holds d_holds ["strip", "kinds", "counts"]
  l_holds : mg "holds" = some (.ref a_holds)
  a__law_wrong : Addr
  d__law_wrong : FuncData
  h__law_wrong : DefAt K "_law_wrong" "_law_wrong" s__law_wrong a__law_wrong d__law_wrong ["_law_strip", "_law_kinds", "_law_counts_here"]
  l__law_wrong : mg "_law_wrong" = some (.ref a__law_wrong)
  a__law_odd_plug : Addr
  d__law_odd_plug : FuncData
  h__law_odd_plug : DefAt K "_law_odd_plug" "_law_odd_plug" s__law_odd_plug a__law_odd_plug d__law_odd_plug ["_law_row"]
  l__law_odd_plug : mg "_law_odd_plug" = some (.ref a__law_odd_plug)
  a_law : Addr
  d_law : FuncData
  h_law : DefAt K "law" "law" s_law a_law d_law ["_law_script"]
  l_law : mg "law" = some (.ref a_law)
  c_Strip : Addr
  k_Strip : ClsD K mg "Strip" c_Strip
  m_Strip : Mk K c_Strip a_Strip_d__init_d_
  c_BadCounts : Addr
  c_BadPlugs : Addr
  c_BadSockets : Addr
  c_StripError : Addr
  r_BadCounts : ErrC K mg "BadCounts" c_BadCounts
  r_BadSockets : ErrC K mg "BadSockets" c_BadSockets
  r_BadPlugs : ErrI K mg "BadPlugs" c_BadPlugs a_BadPlugs_d__init_d_
  no_BadPlugs_index : PySem.W.findIn K (.ref c_BadPlugs) "index" = some none
  x_BadCounts : ErrX K mg "BadCounts" c_BadCounts
  x_BadPlugs : ErrX K mg "BadPlugs" c_BadPlugs
  x_BadSockets : ErrX K mg "BadSockets" c_BadSockets
  x_StripError : ErrX K mg "StripError" c_StripError
  s_BadCounts_BadCounts : PySem.W.subIn K (.ref c_BadCounts) (.ref c_BadCounts) = some (subX "BadCounts" "BadCounts")
  s_BadCounts_BadPlugs : PySem.W.subIn K (.ref c_BadCounts) (.ref c_BadPlugs) = some (subX "BadCounts" "BadPlugs")
  s_BadCounts_StripError : PySem.W.subIn K (.ref c_BadCounts) (.ref c_StripError) = some (subX "BadCounts" "StripError")
  s_BadPlugs_BadCounts : PySem.W.subIn K (.ref c_BadPlugs) (.ref c_BadCounts) = some (subX "BadPlugs" "BadCounts")
  s_BadPlugs_BadPlugs : PySem.W.subIn K (.ref c_BadPlugs) (.ref c_BadPlugs) = some (subX "BadPlugs" "BadPlugs")
  s_BadPlugs_StripError : PySem.W.subIn K (.ref c_BadPlugs) (.ref c_StripError) = some (subX "BadPlugs" "StripError")
  s_BadSockets_BadCounts : PySem.W.subIn K (.ref c_BadSockets) (.ref c_BadCounts) = some (subX "BadSockets" "BadCounts")
  s_BadSockets_BadPlugs : PySem.W.subIn K (.ref c_BadSockets) (.ref c_BadPlugs) = some (subX "BadSockets" "BadPlugs")
  s_BadSockets_StripError : PySem.W.subIn K (.ref c_BadSockets) (.ref c_StripError) = some (subX "BadSockets" "StripError")
  f_BadPlugs_index : XfD K mg "BadPlugs" "index" c_BadPlugs
  n_Strip_rows : NoAttr K c_Strip "rows"
  b_all : mg "all" = none
  b_bool : mg "bool" = none
  b_dict : mg "dict" = none
  b_enumerate : mg "enumerate" = none
  b_int : mg "int" = none
  b_isinstance : mg "isinstance" = none
  b_len : mg "len" = none
  b_list : mg "list" = none
  b_range : mg "range" = none
  b_set : mg "set" = none
  b_sorted : mg "sorted" = none
  b_tuple : mg "tuple" = none
  b_zip : mg "zip" = none
  t_FAR : Tok
  g_FAR : mg "FAR" = some (.int (-1000) t_FAR)
  t_MOST_AT : Tok
  g_MOST_AT : mg "MOST_AT" = some (.int (300) t_MOST_AT)
  t_MOST_KINDS : Tok
  g_MOST_KINDS : mg "MOST_KINDS" = some (.int (3) t_MOST_KINDS)
  t_MOST_SIDE : Tok
  g_MOST_SIDE : mg "MOST_SIDE" = some (.int (60) t_MOST_SIDE)
  t_MOST_SOCKETS : Tok
  g_MOST_SOCKETS : mg "MOST_SOCKETS" = some (.int (9) t_MOST_SOCKETS)
theorem ok_BadPlugs_d__init_d_ {P : Program} {w : World} {K : PySem.W.Frag} {mg : MG} {base : Heap} (T : Env K mg) : FnOk P w K mg base (L2.CX P w) 1 T.a_BadPlugs_d__init_d_ T.d_BadPlugs_d__init_d_ ["self", "index"] (spIni T.c_BadPlugs ["index"]) :=
  ini_ok1 T.h_BadPlugs_d__init_d_.fn sc_BadPlugs_d__init_d_ T.r_BadPlugs.ox T.no_BadPlugs_index rfl (fun _ _ _ _ _ _ => ⟨_, ps_ost (pe_var (i := 0) rfl (.inl rfl)) (pe_var (i := 1) rfl (.inl rfl)), rfl⟩)
theorem ok__law_draws {P : Program} {w : World} {K : PySem.W.Frag} {mg : MG} {base : Heap} (T : Env K mg) : FnOk P w K mg base (L2.CX P w) 1 T.a__law_draws T.d__law_draws ["_law_script"] (spE K mg Pk.F__law_draws) := by
  refine fn_okE (k := 0) T.h__law_draws.fn sc__law_draws rfl fun cdv A outer s H E hr => ?_
  have tk : Takes (cxOf (L2.CX P w) P w K mg base N__law_draws "_law_draws" (defScope s__law_draws) T.a__law_draws cdv A outer s H E) (fun c d _ H' => E c d H') := takes_of rfl rfl rfl rfl
  exact (dss_one (ds_retNew (da_val (de_callTy T.b_list call_list_of cop_list (da_val (de_var 0) da_nil)) (da_val de_int (da_val de_int (da_val de_int da_nil))))))
theorem ok__law_pick {P : Program} {w : World} {K : PySem.W.Frag} {mg : MG} {base : Heap} (T : Env K mg) : FnOk P w K mg base (L2.CX P w) 1 T.a__law_pick T.d__law_pick ["_law_row", "_law_many"] (spE K mg Pk.F__law_pick) := by
  refine fn_okE (k := 0) T.h__law_pick.fn sc__law_pick rfl fun cdv A outer s H E hr => ?_
  have tk : Takes (cxOf (L2.CX P w) P w K mg base N__law_pick "_law_pick" (defScope s__law_pick) T.a__law_pick cdv A outer s H E) (fun c d _ H' => E c d H') := takes_of rfl rfl rfl rfl
  exact (dss_cons (ds_if (dt_c (cmp_eq hr) (de_ixO 0 de_int) de_int) (dss_one (ds_if (dt_c cmp_lt (de_ixO 0 de_int) (de_callB T.b_len call_len cop_len (da_val (de_ixO 0 de_int) da_nil))) (dss_cons (ds_set (i := 3) sc__law_pick.nd (de_sub1 (de_ixO 0 de_int) (de_ixO 0 de_int)))
      (dss_cons (ds_setIx 0 de_int (de_add (de_ixO 0 de_int) de_int))
      (dss_one (ds_if (dt_c cmp_ge (de_var 3) (de_pow de_int de_int)) (dss_one (ds_setIx 0 de_int (de_var 3))) (dss_one (ds_setIx 0 de_int (de_mod (de_callTy T.b_int call_int1 cop_int (da_val (de_add (de_add (de_mulA (de_ixO 0 de_int) de_int) (de_mulA (de_var 3) de_int)) de_int) da_nil)) de_int))))))) (dss_one (ds_setIx 0 de_int (de_mod (de_callTy T.b_int call_int1 cop_int (da_val (de_add (de_mulA (de_ixO 0 de_int) de_int) de_int) da_nil)) de_int))))) dss_nil)
      (dss_cons (ds_if (dt_c cmp_gt (de_ixO 0 de_int) de_int) (dss_cons (ds_set (i := 2) sc__law_pick.nd (de_mod (de_callTy T.b_int call_int1 cop_int (da_val (de_ixO 0 de_int) da_nil)) (de_var 1)))
      (dss_cons (ds_setIx 0 de_int (de_div (de_ixO 0 de_int) (de_var 1)))
      (dss_one (ds_ret (de_var 2))))) dss_nil)
      (dss_one (ds_ret (de_mod (de_mod (de_callTy T.b_int call_int1 cop_int (da_val (de_mulA (de_ixO 0 de_int) de_int) da_nil)) de_int) (de_var 1))))))
theorem ok__law_sockets {P : Program} {w : World} {K : PySem.W.Frag} {mg : MG} {base : Heap} (T : Env K mg) : FnOk P w K mg base (L2.CX P w) 2 T.a__law_sockets T.d__law_sockets ["_law_row", "_law_most"] (spE K mg Pk.F__law_sockets) := by
  have G__law_pick := ok__law_pick (P := P) (w := w) (base := base) T
  refine fn_okE (k := 1) T.h__law_sockets.fn sc__law_sockets rfl fun cdv A outer s H E hr => ?_
  have tk : Takes (cxOf (L2.CX P w) P w K mg base N__law_sockets "_law_sockets" (defScope s__law_sockets) T.a__law_sockets cdv A outer s H E) (fun c d _ H' => E c d H') := takes_of rfl rfl rfl rfl
  exact (dss_cons (ds_par (i := 3) (j := 4) rfl sc__law_sockets.nd (by decide) (da_val (de_tup da_nil) (da_val (de_val (dv_callE tk (hr.mono (by decide)) ⟨G__law_pick, T.l__law_pick, T.h__law_pick.fn.kp, T.h__law_pick.bd⟩ (da_cons (dv_var 0) (da_val de_int da_nil)))) da_nil)) (by rfl))
      (dss_cons (ds_for (passes_of rfl) rfl (di_range1 T.b_range (de_add de_int (de_val (dv_callE tk (hr.mono (by decide)) ⟨G__law_pick, T.l__law_pick, T.h__law_pick.fn.kp, T.h__law_pick.bd⟩ (da_cons (dv_var 0) (da_val (de_var 1) da_nil)))))) (dg_name (i := 2) sc__law_sockets.nd)
      (dss_cons (ds_if (dt_c cmp_le (de_var 4) de_int) (dss_one (ds_set (i := 3) sc__law_sockets.nd (de_add (de_var 3) (de_tup (da_val (de_var 4) da_nil))))) dss_nil)
      (dss_one (ds_set (i := 4) sc__law_sockets.nd (de_add (de_var 4) (de_sub1 (de_lst (da_val de_int (da_val (de_add de_int (de_val (dv_callE tk (hr.mono (by decide)) ⟨G__law_pick, T.l__law_pick, T.h__law_pick.fn.kp, T.h__law_pick.bd⟩ (da_cons (dv_var 0) (da_val de_int da_nil))))) (da_val de_int da_nil)))) (de_val (dv_callE tk (hr.mono (by decide)) ⟨G__law_pick, T.l__law_pick, T.h__law_pick.fn.kp, T.h__law_pick.bd⟩ (da_cons (dv_var 0) (da_val de_int da_nil))))))))))
      (dss_one (ds_ret (de_var 3)))))
theorem ok__law_plug {P : Program} {w : World} {K : PySem.W.Frag} {mg : MG} {base : Heap} (T : Env K mg) : FnOk P w K mg base (L2.CX P w) 2 T.a__law_plug T.d__law_plug ["_law_row"] (spE K mg Pk.F__law_plug) := by
  have G__law_pick := ok__law_pick (P := P) (w := w) (base := base) T
  refine fn_okE (k := 1) T.h__law_plug.fn sc__law_plug rfl fun cdv A outer s H E hr => ?_
  have tk : Takes (cxOf (L2.CX P w) P w K mg base N__law_plug "_law_plug" (defScope s__law_plug) T.a__law_plug cdv A outer s H E) (fun c d _ H' => E c d H') := takes_of rfl rfl rfl rfl
  exact (dss_cons (ds_par (i := 1) (j := 2) rfl sc__law_plug.nd (by decide) (da_val (de_sub1 (de_lst (da_val de_int (da_val de_int (da_val de_int (da_val de_int (da_val de_int (da_val de_int (da_val de_int (da_val de_int da_nil))))))))) (de_val (dv_callE tk (hr.mono (by decide)) ⟨G__law_pick, T.l__law_pick, T.h__law_pick.fn.kp, T.h__law_pick.bd⟩ (da_cons (dv_var 0) (da_val de_int da_nil))))) (da_val (de_val (dv_callE tk (hr.mono (by decide)) ⟨G__law_pick, T.l__law_pick, T.h__law_pick.fn.kp, T.h__law_pick.bd⟩ (da_cons (dv_var 0) (da_val de_int da_nil)))) da_nil)) (by rfl))
      (dss_one (ds_ret (de_tup (da_val (de_var 1) (da_val (de_sub1 (de_lst (da_val (de_var 2) (da_val de_int (da_val (de_var 1) da_nil)))) (de_val (dv_callE tk (hr.mono (by decide)) ⟨G__law_pick, T.l__law_pick, T.h__law_pick.fn.kp, T.h__law_pick.bd⟩ (da_cons (dv_var 0) (da_val de_int da_nil))))) (da_val (de_c (cmp_eq hr) (de_val (dv_callE tk (hr.mono (by decide)) ⟨G__law_pick, T.l__law_pick, T.h__law_pick.fn.kp, T.h__law_pick.bd⟩ (da_cons (dv_var 0) (da_val de_int da_nil)))) de_int) da_nil)))))))
theorem ok__law_plugs {P : Program} {w : World} {K : PySem.W.Frag} {mg : MG} {base : Heap} (T : Env K mg) : FnOk P w K mg base (L2.CX P w) 3 T.a__law_plugs T.d__law_plugs ["_law_row", "_law_most"] (spE K mg Pk.F__law_plugs) := by
  have G__law_pick := ok__law_pick (P := P) (w := w) (base := base) T
  have G__law_plug := ok__law_plug (P := P) (w := w) (base := base) T
  refine fn_okE (k := 2) T.h__law_plugs.fn sc__law_plugs rfl fun cdv A outer s H E hr => ?_
  have tk : Takes (cxOf (L2.CX P w) P w K mg base N__law_plugs "_law_plugs" (defScope s__law_plugs) T.a__law_plugs cdv A outer s H E) (fun c d _ H' => E c d H') := takes_of rfl rfl rfl rfl
  exact (dss_one (ds_ret (de_callTy T.b_tuple call_tuple_of cop_tuple (da_val (de_lc (own := [("_law_k", 2)]) rfl sc__law_plugs.nd (di_range1 T.b_range (de_add de_int (de_val (dv_callE tk (hr.mono (by decide)) ⟨G__law_pick, T.l__law_pick, T.h__law_pick.fn.kp, T.h__law_pick.bd⟩ (da_cons (dv_var 0) (da_val (de_var 1) da_nil)))))) (blkOk_by (own := [("_law_k", 2)]) (N := N__law_plugs) (sc := defScope s__law_plugs) (by decide +kernel)) (fun _ _ _ _ _ => (dg_name (i := 2) sc__law_plugs.nd)) (fun _ _ _ _ _ => dts_nil) (fun _ _ _ _ _ => (de_val (dv_callE takes0 (hr.mono (by decide)) ⟨G__law_plug, T.l__law_plug, T.h__law_plug.fn.kp, T.h__law_plug.bd⟩ (da_cons (dv_var 0) da_nil)))) (by decide)) da_nil))))
theorem ok_is_from {P : Program} {w : World} {K : PySem.W.Frag} {mg : MG} {base : Heap} (T : Env K mg) : FnOk P w K mg base (L2.CX P w) 1 T.a_is_from T.d_is_from ["value", "low", "high"] (spP K mg Pk.F_is_from) := by
  refine fn_okP (k := 0) T.h_is_from.fn sc_is_from rfl fun cdv A outer s H E hr => ?_
  have tk : Takes (cxOf (L2.CX P w) P w K mg base N_is_from "is_from" (defScope s_is_from) T.a_is_from cdv A outer s H E) (fun c d _ H' => E c d H') := takes_of rfl rfl rfl rfl
  exact (dss_one (ds_ret (de_and (de_isi T.b_isinstance T.b_int ask_int (de_var 0)) (de_and (de_not (de_isi T.b_isinstance T.b_bool ask_bool (de_var 0))) (de_one (de_chain cmp_le cmp_le (de_var 1) (de_var 0) (de_var 2)))))))
theorem ok_Strip_d__init_d_ {P : Program} {w : World} {K : PySem.W.Frag} {mg : MG} {base : Heap} (T : Env K mg) : FnOk P w K mg base (L2.CX P w) 2 T.a_Strip_d__init_d_ T.d_Strip_d__init_d_ ["self", "sockets"] (spE K mg Pk.F_Strip_d__init_d__2) := by
  have G_is_from := ok_is_from (P := P) (w := w) (base := base) T
  refine fn_okE (k := 1) T.h_Strip_d__init_d_.fn sc_Strip_d__init_d_ rfl fun cdv A outer s H E hr => ?_
  have tk : Takes (cxOf (L2.CX P w) P w K mg base N_Strip_d__init_d_ "Strip.__init__" (defScope s_Strip_d__init_d_) T.a_Strip_d__init_d_ cdv A outer s H E) (fun c d _ H' => E c d H') := takes_of rfl rfl rfl rfl
  exact (dss_cons (ds_if (dt_w (dw_or (dt_not (dt_val (de_isi T.b_isinstance T.b_tuple ask_tuple (de_var 1)))) (dw_or1 (dt_not (dt_chain cmp_le cmp_le de_int (de_callB T.b_len call_len cop_len (da_val (de_var 1) da_nil)) (de_globI T.g_MOST_SOCKETS)))))) (dss_one (ds_raise tk T.r_BadSockets)) dss_nil)
      (dss_cons (ds_if (dt_not (dt_val (de_callBL T.b_all (cr_all rfl) copL_all (dl_of (de_lc (own := [("one", 2)]) rfl sc_Strip_d__init_d_.nd (di_seq (de_var 1)) (blkOk_by (own := [("one", 2)]) (N := N_Strip_d__init_d_) (sc := defScope s_Strip_d__init_d_) (by decide +kernel)) (fun _ _ _ _ _ => (dg_name (i := 2) sc_Strip_d__init_d_.nd)) (fun _ _ _ _ _ => dts_nil) (fun _ _ _ _ _ => (de_call takes0 (hr.mono (by decide)) ⟨G_is_from, T.l_is_from, T.h_is_from.fn.kp, T.h_is_from.bd⟩ (da_val (de_var 2) (da_val de_int (da_val (de_globI T.g_MOST_AT) da_nil))))) (by decide)))))) (dss_one (ds_raise tk T.r_BadSockets)) dss_nil)
      (dss_cons (ds_if (dt_not (dt_val (de_callBL T.b_all (cr_all rfl) copL_all (dl_of (de_lc (own := [("one", 2), ("other", 3)]) rfl sc_Strip_d__init_d_.nd (di_zip T.b_zip (de_var 1) (de_slice (de_var 1) (do_some de_int) do_none)) (blkOk_by (own := [("one", 2), ("other", 3)]) (N := N_Strip_d__init_d_) (sc := defScope s_Strip_d__init_d_) (by decide +kernel)) (fun _ _ _ _ _ => (dg_tup rfl (dgs_cons (dg_name (i := 2) sc_Strip_d__init_d_.nd) (dgs_cons (dg_name (i := 3) sc_Strip_d__init_d_.nd) dgs_nil)))) (fun _ _ _ _ _ => dts_nil) (fun _ _ _ _ _ => (de_c cmp_lt (de_var 2) (de_var 3))) (by decide)))))) (dss_one (ds_raise tk T.r_BadSockets)) dss_nil)
      (dss_one (ds_fldO 0 T.k_Strip T.n_Strip_rows (de_var 1))))))
theorem ok__law_body {P : Program} {w : World} {K : PySem.W.Frag} {mg : MG} {base : Heap} (T : Env K mg) : FnOk P w K mg base (L2.CX P w) 1 T.a__law_body T.d__law_body ["_law_sockets_here", "_law_plug_here", "_law_place"] (spP K mg Pk.F__law_body) := by
  refine fn_okP (k := 0) T.h__law_body.fn sc__law_body rfl fun cdv A outer s H E hr => ?_
  have tk : Takes (cxOf (L2.CX P w) P w K mg base N__law_body "_law_body" (defScope s__law_body) T.a__law_body cdv A outer s H E) (fun c d _ H' => E c d H') := takes_of rfl rfl rfl rfl
  exact (dss_cons (ds_par (i := 3) (j := 4) rfl sc__law_body.nd (by decide) (da_val (de_sub1 (de_var 1) de_int) (da_val (de_sub1 (de_var 1) de_int) da_nil)) (by rfl))
      (dss_cons (ds_if (dt_val (de_sub1 (de_var 2) de_int)) (dss_one (ds_par (i := 3) (j := 4) rfl sc__law_body.nd (by decide) (da_val (de_var 4) (da_val (de_var 3) da_nil)) (by rfl))) dss_nil)
      (dss_one (ds_ret (de_lst (da_val (de_sub (de_sub1 (de_var 0) (de_sub1 (de_var 2) de_int)) (de_var 3)) (da_val (de_add (de_sub1 (de_var 0) (de_sub1 (de_var 2) de_int)) (de_var 4)) da_nil)))))))
theorem ok__law_can {P : Program} {w : World} {K : PySem.W.Frag} {mg : MG} {base : Heap} (T : Env K mg) : FnOk P w K mg base (L2.CX P w) 1 T.a__law_can T.d__law_can ["_law_plug_here"] (spP K mg Pk.F__law_can) := by
  refine fn_okP (k := 0) T.h__law_can.fn sc__law_can rfl fun cdv A outer s H E hr => ?_
  have tk : Takes (cxOf (L2.CX P w) P w K mg base N__law_can "_law_can" (defScope s__law_can) T.a__law_can cdv A outer s H E) (fun c d _ H' => E c d H') := takes_of rfl rfl rfl rfl
  exact (dss_one (ds_ret (de_and (de_sub1 (de_var 0) de_int) (de_one (de_c (cmp_ne hr) (de_sub1 (de_var 0) de_int) (de_sub1 (de_var 0) de_int))))))
theorem ok__law_counts {P : Program} {w : World} {K : PySem.W.Frag} {mg : MG} {base : Heap} (T : Env K mg) : FnOk P w K mg base (L2.CX P w) 2 T.a__law_counts T.d__law_counts ["_law_sockets_here", "_law_kinds"] (spP K mg Pk.F__law_counts) := by
  have G__law_body := ok__law_body (P := P) (w := w) (base := base) T
  have G__law_can := ok__law_can (P := P) (w := w) (base := base) T
  refine fn_okP (k := 1) T.h__law_counts.fn sc__law_counts rfl fun cdv A outer s H E hr => ?_
  have tk : Takes (cxOf (L2.CX P w) P w K mg base N__law_counts "_law_counts" (defScope s__law_counts) T.a__law_counts cdv A outer s H E) (fun c d _ H' => E c d H') := takes_of rfl rfl rfl rfl
  exact (dss_cons (ds_set (i := 2) sc__law_counts.nd (de_ndisp (hr.mono (Nat.zero_le _)) (de_tup (da_val (de_mulA (de_tup (da_val de_int da_nil)) (de_callB T.b_len call_len cop_len (da_val (de_var 1) da_nil))) (da_val (de_neg de_int) da_nil))) de_bl))
      (dss_cons (ds_for (passes_of rfl) rfl (di_range1 T.b_range (de_callB T.b_len call_len cop_len (da_val (de_var 0) da_nil))) (dg_name (i := 3) sc__law_counts.nd)
      (dss_cons (ds_setS (i := 4) sc__law_counts.nd (dv_copyN (hr.mono (Nat.zero_le _)) T.b_dict (de_var 2)))
      (dss_cons (ds_for (passes_of rfl) rfl (di_nkeys (de_var 2)) (dg_tup rfl (dgs_cons (dg_name (i := 5) sc__law_counts.nd) (dgs_cons (dg_name (i := 6) sc__law_counts.nd) dgs_nil)))
      (dss_one (ds_for (passes_of rfl) rfl (di_range1 T.b_range (de_callB T.b_len call_len cop_len (da_val (de_var 1) da_nil))) (dg_name (i := 7) sc__law_counts.nd)
      (dss_one (ds_for (passes_of rfl) rfl (di_seq (de_slice (de_lst (da_val de_bl (da_val de_bl da_nil))) do_none (do_some (de_add de_int (de_callTy T.b_int call_int1 cop_int (da_val (de_call tk (hr.mono (by decide)) ⟨G__law_can, T.l__law_can, T.h__law_can.fn.kp, T.h__law_can.bd⟩ (da_val (de_sub1 (de_var 1) (de_var 7)) da_nil)) da_nil)))))) (dg_name (i := 8) sc__law_counts.nd)
      (dss_cons (ds_asg (de_call tk (hr.mono (by decide)) ⟨G__law_body, T.l__law_body, T.h__law_body.fn.kp, T.h__law_body.bd⟩ (da_val (de_var 0) (da_val (de_sub1 (de_var 1) (de_var 7)) (da_val (de_tup (da_val (de_var 3) (da_val (de_var 8) da_nil))) da_nil)))) (dg_tup rfl (dgs_cons (dg_name (i := 9) sc__law_counts.nd) (dgs_cons (dg_name (i := 10) sc__law_counts.nd) dgs_nil))))
      (dss_one (ds_if (dt_c cmp_ge (de_var 9) (de_var 6)) (dss_cons (ds_set (i := 11) sc__law_counts.nd (de_add (de_add (de_slice (de_var 5) do_none (do_some (de_var 7))) (de_tup (da_val (de_add (de_sub1 (de_var 5) (de_var 7)) de_int) da_nil))) (de_slice (de_var 5) (do_some (de_add (de_var 7) de_int)) do_none)))
      (dss_one (ds_nput 4 (hr.mono (Nat.zero_le _)) (de_tup (da_val (de_var 11) (da_val (de_var 10) da_nil))) de_bl))) dss_nil))))))))
      (dss_one (ds_gf 4 (ds_set (i := 2) sc__law_counts.nd (de_var 4)))))))
      (dss_one (ds_ret (de_sortSetU (u100 hr) T.b_sorted T.b_set (de_lc (own := [("_law_counts_here", 5), ("_law_end", 6)]) rfl sc__law_counts.nd (di_nkeys (de_var 2)) (blkOk_by (own := [("_law_counts_here", 5), ("_law_end", 6)]) (N := N__law_counts) (sc := defScope s__law_counts) (by decide +kernel)) (fun _ _ _ _ _ => (dg_tup rfl (dgs_cons (dg_name (i := 5) sc__law_counts.nd) (dgs_cons (dg_name (i := 6) sc__law_counts.nd) dgs_nil)))) (fun _ _ _ _ _ => dts_nil) (fun _ _ _ _ _ => (de_var 5)) (by decide)))))))
theorem ok_is_plug {P : Program} {w : World} {K : PySem.W.Frag} {mg : MG} {base : Heap} (T : Env K mg) : FnOk P w K mg base (L2.CX P w) 2 T.a_is_plug T.d_is_plug ["value"] (spP K mg Pk.F_is_plug) := by
  have G_is_from := ok_is_from (P := P) (w := w) (base := base) T
  refine fn_okP (k := 1) T.h_is_plug.fn sc_is_plug rfl fun cdv A outer s H E hr => ?_
  have tk : Takes (cxOf (L2.CX P w) P w K mg base N_is_plug "is_plug" (defScope s_is_plug) T.a_is_plug cdv A outer s H E) (fun c d _ H' => E c d H') := takes_of rfl rfl rfl rfl
  exact (dss_cons (ds_if (dt_w (dw_or (dt_not (dt_val (de_isi T.b_isinstance T.b_tuple ask_tuple (de_var 0)))) (dw_or (dt_c (cmp_ne hr) (de_callB T.b_len call_len cop_len (da_val (de_var 0) da_nil)) de_int) (dw_or1 (dt_not (dt_val (de_callBL T.b_all (cr_all rfl) copL_all (dl_of (de_lc (own := [("one", 1)]) rfl sc_is_plug.nd (di_seq (de_slice (de_var 0) do_none (do_some de_int))) (blkOk_by (own := [("one", 1)]) (N := N_is_plug) (sc := defScope s_is_plug) (by decide +kernel)) (fun _ _ _ _ _ => (dg_name (i := 1) sc_is_plug.nd)) (fun _ _ _ _ _ => dts_nil) (fun _ _ _ _ _ => (de_call takes0 (hr.mono (by decide)) ⟨G_is_from, T.l_is_from, T.h_is_from.fn.kp, T.h_is_from.bd⟩ (da_val (de_var 1) (da_val de_int (da_val (de_globI T.g_MOST_SIDE) da_nil))))) (by decide)))))))))) (dss_one (ds_ret de_bl)) dss_nil)
      (dss_one (ds_ret (de_isi T.b_isinstance T.b_bool ask_bool (de_sub1 (de_var 0) de_int)))))
theorem ok_check_plugs {P : Program} {w : World} {K : PySem.W.Frag} {mg : MG} {base : Heap} (T : Env K mg) : FnOk P w K mg base (L2.CX P w) 3 T.a_check_plugs T.d_check_plugs ["value", "most"] (spP K mg Pk.F_check_plugs_2) := by
  have G_BadPlugs_d__init_d_ := ok_BadPlugs_d__init_d_ (P := P) (w := w) (base := base) T
  have G_is_plug := ok_is_plug (P := P) (w := w) (base := base) T
  refine fn_okP (k := 2) T.h_check_plugs.fn sc_check_plugs rfl fun cdv A outer s H E hr => ?_
  have tk : Takes (cxOf (L2.CX P w) P w K mg base N_check_plugs "check_plugs" (defScope s_check_plugs) T.a_check_plugs cdv A outer s H E) (fun c d _ H' => E c d H') := takes_of rfl rfl rfl rfl
  exact (dss_cons (ds_if (dt_w (dw_or (dt_not (dt_val (de_isi T.b_isinstance T.b_tuple ask_tuple (de_var 0)))) (dw_or1 (dt_not (dt_chain cmp_le cmp_le de_int (de_callB T.b_len call_len cop_len (da_val (de_var 0) da_nil)) (de_var 1)))))) (dss_one (ds_raiseI (fls := ["index"]) tk T.r_BadPlugs G_BadPlugs_d__init_d_ (hr.mono (by decide)) T.h_BadPlugs_d__init_d_.bd (da_val de_non da_nil))) dss_nil)
      (dss_one (ds_for (passes_of rfl) rfl (di_enum T.b_enumerate (de_var 0)) (dg_tup rfl (dgs_cons (dg_name (i := 2) sc_check_plugs.nd) (dgs_cons (dg_name (i := 3) sc_check_plugs.nd) dgs_nil)))
      (dss_one (ds_if (dt_not (dt_val (de_call tk (hr.mono (by decide)) ⟨G_is_plug, T.l_is_plug, T.h_is_plug.fn.kp, T.h_is_plug.bd⟩ (da_val (de_var 3) da_nil)))) (dss_one (ds_raiseI (fls := ["index"]) tk T.r_BadPlugs G_BadPlugs_d__init_d_ (hr.mono (by decide)) T.h_BadPlugs_d__init_d_.bd (da_val (de_var 2) da_nil))) dss_nil)))))
theorem ok_can_turn {P : Program} {w : World} {K : PySem.W.Frag} {mg : MG} {base : Heap} (T : Env K mg) : FnOk P w K mg base (L2.CX P w) 1 T.a_can_turn T.d_can_turn ["plug"] (spP K mg Pk.F_can_turn) := by
  refine fn_okP (k := 0) T.h_can_turn.fn sc_can_turn rfl fun cdv A outer s H E hr => ?_
  have tk : Takes (cxOf (L2.CX P w) P w K mg base N_can_turn "can_turn" (defScope s_can_turn) T.a_can_turn cdv A outer s H E) (fun c d _ H' => E c d H') := takes_of rfl rfl rfl rfl
  exact (dss_one (ds_ret (de_and (de_sub1 (de_var 0) de_int) (de_one (de_c (cmp_ne hr) (de_sub1 (de_var 0) de_int) (de_sub1 (de_var 0) de_int))))))
theorem ok_stands_of {P : Program} {w : World} {K : PySem.W.Frag} {mg : MG} {base : Heap} (T : Env K mg) : FnOk P w K mg base (L2.CX P w) 2 T.a_stands_of T.d_stands_of ["plug"] (spP K mg Pk.F_stands_of) := by
  have G_can_turn := ok_can_turn (P := P) (w := w) (base := base) T
  refine fn_okP (k := 1) T.h_stands_of.fn sc_stands_of rfl fun cdv A outer s H E hr => ?_
  have tk : Takes (cxOf (L2.CX P w) P w K mg base N_stands_of "stands_of" (defScope s_stands_of) T.a_stands_of cdv A outer s H E) (fun c d _ H' => E c d H') := takes_of rfl rfl rfl rfl
  exact (dss_one (ds_ret (de_if (dt_val (de_call tk (hr.mono (by decide)) ⟨G_can_turn, T.l_can_turn, T.h_can_turn.fn.kp, T.h_can_turn.bd⟩ (da_val (de_var 0) da_nil))) (de_lst (da_val de_bl (da_val de_bl da_nil))) (de_lst (da_val de_bl da_nil)))))
theorem ok_sides {P : Program} {w : World} {K : PySem.W.Frag} {mg : MG} {base : Heap} (T : Env K mg) : FnOk P w K mg base (L2.CX P w) 1 T.a_sides T.d_sides ["plug", "turned"] (spP K mg Pk.F_sides) := by
  refine fn_okP (k := 0) T.h_sides.fn sc_sides rfl fun cdv A outer s H E hr => ?_
  have tk : Takes (cxOf (L2.CX P w) P w K mg base N_sides "sides" (defScope s_sides) T.a_sides cdv A outer s H E) (fun c d _ H' => E c d H') := takes_of rfl rfl rfl rfl
  exact (dss_one (ds_ret (de_if (dt_val (de_var 1)) (de_tup (da_val (de_sub1 (de_var 0) de_int) (da_val (de_sub1 (de_var 0) de_int) da_nil))) (de_slice (de_var 0) do_none (do_some de_int)))))
theorem ok_body {P : Program} {w : World} {K : PySem.W.Frag} {mg : MG} {base : Heap} (T : Env K mg) : FnOk P w K mg base (L2.CX P w) 2 T.a_body T.d_body ["strip", "plug", "place"] (spP K mg Pk.F_body) := by
  have G_sides := ok_sides (P := P) (w := w) (base := base) T
  refine fn_okP (k := 1) T.h_body.fn sc_body rfl fun cdv A outer s H E hr => ?_
  have tk : Takes (cxOf (L2.CX P w) P w K mg base N_body "body" (defScope s_body) T.a_body cdv A outer s H E) (fun c d _ H' => E c d H') := takes_of rfl rfl rfl rfl
  exact (dss_cons (ds_asg (de_call tk (hr.mono (by decide)) ⟨G_sides, T.l_sides, T.h_sides.fn.kp, T.h_sides.bd⟩ (da_val (de_var 1) (da_val (de_sub1 (de_var 2) de_int) da_nil))) (dg_tup rfl (dgs_cons (dg_name (i := 3) sc_body.nd) (dgs_cons (dg_name (i := 4) sc_body.nd) dgs_nil))))
      (dss_one (ds_ret (de_tup (da_val (de_sub (de_sub1 (de_fld T.k_Strip T.n_Strip_rows (de_var 0)) (de_sub1 (de_var 2) de_int)) (de_var 3)) (da_val (de_add (de_sub1 (de_fld T.k_Strip T.n_Strip_rows (de_var 0)) (de_sub1 (de_var 2) de_int)) (de_var 4)) da_nil))))))
theorem ok_all_counts {P : Program} {w : World} {K : PySem.W.Frag} {mg : MG} {base : Heap} (T : Env K mg) : FnOk P w K mg base (L2.CX P w) 3 T.a_all_counts T.d_all_counts ["strip", "kinds"] (spP K mg Pk.F_all_counts) := by
  have G_body := ok_body (P := P) (w := w) (base := base) T
  have G_stands_of := ok_stands_of (P := P) (w := w) (base := base) T
  refine fn_okP (k := 2) T.h_all_counts.fn sc_all_counts rfl fun cdv A outer s H E hr => ?_
  have tk : Takes (cxOf (L2.CX P w) P w K mg base N_all_counts "all_counts" (defScope s_all_counts) T.a_all_counts cdv A outer s H E) (fun c d _ H' => E c d H') := takes_of rfl rfl rfl rfl
  exact (dss_cons (ds_set (i := 2) sc_all_counts.nd (de_ndisp (hr.mono (Nat.zero_le _)) (de_tup (da_val (de_mulA (de_tup (da_val de_int da_nil)) (de_callB T.b_len call_len cop_len (da_val (de_var 1) da_nil))) (da_val (de_globI T.g_FAR) da_nil))) de_bl))
      (dss_cons (ds_for (passes_of rfl) rfl (di_range1 T.b_range (de_callB T.b_len call_len cop_len (da_val (de_fld T.k_Strip T.n_Strip_rows (de_var 0)) da_nil))) (dg_name (i := 3) sc_all_counts.nd)
      (dss_cons (ds_setS (i := 4) sc_all_counts.nd (dv_copyN (hr.mono (Nat.zero_le _)) T.b_dict (de_var 2)))
      (dss_cons (ds_for (passes_of rfl) rfl (di_nkeys (de_var 2)) (dg_tup rfl (dgs_cons (dg_name (i := 5) sc_all_counts.nd) (dgs_cons (dg_name (i := 6) sc_all_counts.nd) dgs_nil)))
      (dss_one (ds_for (passes_of rfl) rfl (di_enum T.b_enumerate (de_var 1)) (dg_tup rfl (dgs_cons (dg_name (i := 7) sc_all_counts.nd) (dgs_cons (dg_name (i := 8) sc_all_counts.nd) dgs_nil)))
      (dss_one (ds_for (passes_of rfl) rfl (di_seq (de_call tk (hr.mono (by decide)) ⟨G_stands_of, T.l_stands_of, T.h_stands_of.fn.kp, T.h_stands_of.bd⟩ (da_val (de_var 8) da_nil))) (dg_name (i := 9) sc_all_counts.nd)
      (dss_cons (ds_asg (de_call tk (hr.mono (by decide)) ⟨G_body, T.l_body, T.h_body.fn.kp, T.h_body.bd⟩ (da_val (de_var 0) (da_val (de_var 8) (da_val (de_tup (da_val (de_var 3) (da_val (de_var 9) da_nil))) da_nil)))) (dg_tup rfl (dgs_cons (dg_name (i := 10) sc_all_counts.nd) (dgs_cons (dg_name (i := 11) sc_all_counts.nd) dgs_nil))))
      (dss_one (ds_if (dt_c cmp_ge (de_var 10) (de_var 6)) (dss_one (ds_nput 4 (hr.mono (Nat.zero_le _)) (de_tup (da_val (de_tup (da_star (de_slice (de_var 5) do_none (do_some (de_var 7))) (da_val (de_add (de_sub1 (de_var 5) (de_var 7)) de_int) (da_star (de_slice (de_var 5) (do_some (de_add (de_var 7) de_int)) do_none) da_nil)))) (da_val (de_var 11) da_nil))) de_bl)) dss_nil))))))))
      (dss_one (ds_gf 4 (ds_set (i := 2) sc_all_counts.nd (de_var 4)))))))
      (dss_one (ds_ret (de_dcN (own := [("counts", 5), ("end", 6)]) (hr.mono (Nat.zero_le _)) rfl sc_all_counts.nd (di_nkeys (de_var 2)) (blkOk_by (own := [("counts", 5), ("end", 6)]) (N := N_all_counts) (sc := defScope s_all_counts) (by decide +kernel)) (fun _ _ _ _ _ => (dg_tup rfl (dgs_cons (dg_name (i := 5) sc_all_counts.nd) (dgs_cons (dg_name (i := 6) sc_all_counts.nd) dgs_nil)))) (fun _ _ _ _ _ => dts_nil) (fun _ _ _ _ _ => (de_var 5)) (fun _ _ _ _ _ => de_bl) (by decide))))))
theorem ok_is_within {P : Program} {w : World} {K : PySem.W.Frag} {mg : MG} {base : Heap} (T : Env K mg) : FnOk P w K mg base (L2.CX P w) 1 T.a_is_within T.d_is_within ["one", "other"] (spP K mg Pk.F_is_within) := by
  refine fn_okP (k := 0) T.h_is_within.fn sc_is_within rfl fun cdv A outer s H E hr => ?_
  have tk : Takes (cxOf (L2.CX P w) P w K mg base N_is_within "is_within" (defScope s_is_within) T.a_is_within cdv A outer s H E) (fun c d _ H' => E c d H') := takes_of rfl rfl rfl rfl
  exact (dss_one (ds_ret (de_callBL T.b_all (cr_all rfl) copL_all (dl_of (de_lc (own := [("first", 2), ("second", 3)]) rfl sc_is_within.nd (di_zip T.b_zip (de_var 0) (de_var 1)) (blkOk_by (own := [("first", 2), ("second", 3)]) (N := N_is_within) (sc := defScope s_is_within) (by decide +kernel)) (fun _ _ _ _ _ => (dg_tup rfl (dgs_cons (dg_name (i := 2) sc_is_within.nd) (dgs_cons (dg_name (i := 3) sc_is_within.nd) dgs_nil)))) (fun _ _ _ _ _ => dts_nil) (fun _ _ _ _ _ => (de_c cmp_le (de_var 2) (de_var 3))) (by decide))))))
theorem ok_fullest {P : Program} {w : World} {K : PySem.W.Frag} {mg : MG} {base : Heap} (T : Env K mg) : FnOk P w K mg base (L2.CX P w) 4 T.a_fullest T.d_fullest ["strip", "kinds"] (spP K mg Pk.F_fullest) := by
  have G_all_counts := ok_all_counts (P := P) (w := w) (base := base) T
  have G_check_plugs := ok_check_plugs (P := P) (w := w) (base := base) T
  have G_is_within := ok_is_within (P := P) (w := w) (base := base) T
  refine fn_okP (k := 3) T.h_fullest.fn sc_fullest rfl fun cdv A outer s H E hr => ?_
  have tk : Takes (cxOf (L2.CX P w) P w K mg base N_fullest "fullest" (defScope s_fullest) T.a_fullest cdv A outer s H E) (fun c d _ H' => E c d H') := takes_of rfl rfl rfl rfl
  exact (dss_cons (ds_expr (de_call tk (hr.mono (by decide)) ⟨G_check_plugs, T.l_check_plugs, T.h_check_plugs.fn.kp, T.h_check_plugs.bd⟩ (da_val (de_var 1) (da_val (de_globI T.g_MOST_KINDS) da_nil))))
      (dss_cons (ds_set (i := 2) sc_fullest.nd (de_call tk (hr.mono (by decide)) ⟨G_all_counts, T.l_all_counts, T.h_all_counts.fn.kp, T.h_all_counts.bd⟩ (da_val (de_var 0) (da_val (de_var 1) da_nil))))
      (dss_cons (ds_newL (i := 3) sc_fullest.nd da_nil)
      (dss_cons (ds_for (passes_of rfl) rfl (di_nkeys (de_var 2)) (dg_name (i := 4) sc_fullest.nd)
      (dss_one (ds_if (dt_c (cmp_eq hr) (de_lc (own := [("other", 5)]) rfl sc_fullest.nd (di_nkeys (de_var 2)) (blkOk_by (own := [("other", 5)]) (N := N_fullest) (sc := defScope s_fullest) (by decide +kernel)) (fun _ _ _ _ _ => (dg_name (i := 5) sc_fullest.nd)) (fun _ _ _ _ _ => (dts_one (dt_w (dw_and (dt_c (cmp_ne hr) (de_var 5) (de_var 4)) (dw_and1 (dt_val (de_call takes0 (hr.mono (by decide)) ⟨G_is_within, T.l_is_within, T.h_is_within.fn.kp, T.h_is_within.bd⟩ (da_val (de_var 4) (da_val (de_var 5) da_nil))))))))) (fun _ _ _ _ _ => (de_var 5)) (by decide)) (de_lst da_nil)) (dss_one (ds_app 3 (de_var 4))) dss_nil)))
      (dss_one (ds_ret (de_callBL T.b_sorted (call_sortD (u100 hr)) copL_sort (dl_var 3))))))))
theorem ok_holds {P : Program} {w : World} {K : PySem.W.Frag} {mg : MG} {base : Heap} (T : Env K mg) : FnOk P w K mg base (L2.CX P w) 4 T.a_holds T.d_holds ["strip", "kinds", "counts"] (spP K mg Pk.F_holds) := by
  have G_all_counts := ok_all_counts (P := P) (w := w) (base := base) T
  have G_check_plugs := ok_check_plugs (P := P) (w := w) (base := base) T
  have G_is_from := ok_is_from (P := P) (w := w) (base := base) T
  refine fn_okP (k := 3) T.h_holds.fn sc_holds rfl fun cdv A outer s H E hr => ?_
  have tk : Takes (cxOf (L2.CX P w) P w K mg base N_holds "holds" (defScope s_holds) T.a_holds cdv A outer s H E) (fun c d _ H' => E c d H') := takes_of rfl rfl rfl rfl
  exact (dss_cons (ds_expr (de_call tk (hr.mono (by decide)) ⟨G_check_plugs, T.l_check_plugs, T.h_check_plugs.fn.kp, T.h_check_plugs.bd⟩ (da_val (de_var 1) (da_val (de_globI T.g_MOST_KINDS) da_nil))))
      (dss_cons (ds_if (dt_w (dw_or (dt_not (dt_val (de_isi T.b_isinstance T.b_tuple ask_tuple (de_var 2)))) (dw_or1 (dt_c (cmp_ne hr) (de_callB T.b_len call_len cop_len (da_val (de_var 2) da_nil)) (de_callB T.b_len call_len cop_len (da_val (de_var 1) da_nil)))))) (dss_one (ds_raise tk T.r_BadCounts)) dss_nil)
      (dss_cons (ds_if (dt_not (dt_val (de_callBL T.b_all (cr_all rfl) copL_all (dl_of (de_lc (own := [("count", 3)]) rfl sc_holds.nd (di_seq (de_var 2)) (blkOk_by (own := [("count", 3)]) (N := N_holds) (sc := defScope s_holds) (by decide +kernel)) (fun _ _ _ _ _ => (dg_name (i := 3) sc_holds.nd)) (fun _ _ _ _ _ => dts_nil) (fun _ _ _ _ _ => (de_call takes0 (hr.mono (by decide)) ⟨G_is_from, T.l_is_from, T.h_is_from.fn.kp, T.h_is_from.bd⟩ (da_val (de_var 3) (da_val de_int (da_val (de_globI T.g_MOST_SOCKETS) da_nil))))) (by decide)))))) (dss_one (ds_raise tk T.r_BadCounts)) dss_nil)
      (dss_one (ds_ret (de_c (cmp_in2 (hr.mono (Nat.zero_le _))) (de_var 2) (de_call tk (hr.mono (by decide)) ⟨G_all_counts, T.l_all_counts, T.h_all_counts.fn.kp, T.h_all_counts.bd⟩ (da_val (de_var 0) (da_val (de_var 1) da_nil)))))))))
theorem ok__law_wrong {P : Program} {w : World} {K : PySem.W.Frag} {mg : MG} {base : Heap} (T : Env K mg) : FnOk P w K mg base (L2.CX P w) 5 T.a__law_wrong T.d__law_wrong ["_law_strip", "_law_kinds", "_law_counts_here"] (spP K mg Pk.F__law_wrong_7) := by
  have G_fullest := ok_fullest (P := P) (w := w) (base := base) T
  have G_holds := ok_holds (P := P) (w := w) (base := base) T
  refine fn_okP (k := 4) T.h__law_wrong.fn sc__law_wrong rfl fun cdv A outer s H E hr => ?_
  have tk : Takes (cxOf (L2.CX P w) P w K mg base N__law_wrong "_law_wrong" (defScope s__law_wrong) T.a__law_wrong cdv A outer s H E) (fun c d _ H' => E c d H') := takes_of rfl rfl rfl rfl
  exact (dss_cons (ds_set (i := 3) sc__law_wrong.nd de_non)
      (dss_cons (ds_try (nms := ["BadSockets", "BadCounts", "BadPlugs"]) (i := 4) (hN := sc__law_wrong.nd) tk (hb := fun _ _ _ tk1 hp1 => (dss_one (ds_set (i := 3) sc__law_wrong.nd (de_if (dt_c (cmp_eq hr) (de_var 2) de_str) (de_call tk1 (hr.mono (by decide)) ⟨G_fullest, T.l_fullest, T.h_fullest.fn.kp, T.h_fullest.bd⟩ (da_val (de_var 0) (da_val (de_var 1) da_nil))) (de_call tk1 (hr.mono (by decide)) ⟨G_holds, T.l_holds, T.h_holds.fn.kp, T.h_holds.bd⟩ (da_val (de_var 0) (da_val (de_var 1) (da_val (de_var 2) da_nil))))))))
      (hh := (.cons rfl (by decide) T.x_BadPlugs.gl (catches_cons T.x_BadPlugs T.x_BadSockets T.s_BadSockets_BadPlugs (catches_cons T.x_BadPlugs T.x_BadCounts T.s_BadCounts_BadPlugs (catches_cons T.x_BadPlugs T.x_BadPlugs T.s_BadPlugs_BadPlugs catches_nil))) (su_set (j := 3) (dx_if (dx_isi T.b_isinstance T.x_StripError.gl (isx_cons T.x_StripError T.x_BadSockets T.s_BadSockets_StripError (isx_cons T.x_StripError T.x_BadCounts T.s_BadCounts_StripError (isx_cons T.x_StripError T.x_BadPlugs T.s_BadPlugs_StripError isx_nil)))) (dx_lst (dxa_cons (dx_of fun _ _ _ => de_str) (dxa_cons (dx_fld T.f_BadPlugs_index) dxa_nil))) (dx_of fun _ _ _ => de_str)) sc__law_wrong.nd) (.cons rfl (by decide) T.x_BadCounts.gl (catches_cons T.x_BadCounts T.x_BadSockets T.s_BadSockets_BadCounts (catches_cons T.x_BadCounts T.x_BadCounts T.s_BadCounts_BadCounts (catches_cons T.x_BadCounts T.x_BadPlugs T.s_BadPlugs_BadCounts catches_nil))) (su_set (j := 3) (dx_if (dx_isi T.b_isinstance T.x_StripError.gl (isx_cons T.x_StripError T.x_BadSockets T.s_BadSockets_StripError (isx_cons T.x_StripError T.x_BadCounts T.s_BadCounts_StripError (isx_cons T.x_StripError T.x_BadPlugs T.s_BadPlugs_StripError isx_nil)))) (dx_of fun _ _ _ => de_str) (dx_of fun _ _ _ => de_str)) sc__law_wrong.nd) .nil))))
      (dss_one (ds_ret (de_var 3)))))
theorem ok__law_odd_plug {P : Program} {w : World} {K : PySem.W.Frag} {mg : MG} {base : Heap} (T : Env K mg) : FnOk P w K mg base (L2.CX P w) 2 T.a__law_odd_plug T.d__law_odd_plug ["_law_row"] (spE K mg Pk.F__law_odd_plug) := by
  have G__law_pick := ok__law_pick (P := P) (w := w) (base := base) T
  refine fn_okE (k := 1) T.h__law_odd_plug.fn sc__law_odd_plug rfl fun cdv A outer s H E hr => ?_
  have tk : Takes (cxOf (L2.CX P w) P w K mg base N__law_odd_plug "_law_odd_plug" (defScope s__law_odd_plug) T.a__law_odd_plug cdv A outer s H E) (fun c d _ H' => E c d H') := takes_of rfl rfl rfl rfl
  exact (dss_cons (ds_set (i := 1) sc__law_odd_plug.nd (de_lst (da_val de_non (da_val (de_tup (da_val de_int (da_val de_int da_nil))) (da_val (de_lst (da_val de_int (da_val de_int (da_val de_bl da_nil)))) (da_val (de_tup (da_val de_int (da_val de_int (da_val de_int da_nil)))) (da_val (de_tup (da_val de_int (da_val de_int (da_val de_bl da_nil)))) (da_val (de_tup (da_val de_int (da_val (de_neg de_int) (da_val de_bl da_nil)))) (da_val (de_tup (da_val de_bl (da_val de_int (da_val de_bl da_nil)))) (da_val (de_tup (da_val de_int (da_val de_int (da_val de_non da_nil)))) (da_val de_str da_nil)))))))))))
      (dss_one (ds_ret (de_sub1 (de_var 1) (de_val (dv_callE tk (hr.mono (by decide)) ⟨G__law_pick, T.l__law_pick, T.h__law_pick.fn.kp, T.h__law_pick.bd⟩ (da_cons (dv_var 0) (da_val de_int da_nil))))))))
theorem ok_law {P : Program} {w : World} {K : PySem.W.Frag} {mg : MG} {base : Heap} (T : Env K mg) : FnOk P w K mg base (L2.CX P w) 6 T.a_law T.d_law ["_law_script"] (spP K mg Pk.F_law_30) := by
  have G_Strip_d__init_d_ := ok_Strip_d__init_d_ (P := P) (w := w) (base := base) T
  have G__law_counts := ok__law_counts (P := P) (w := w) (base := base) T
  have G__law_draws := ok__law_draws (P := P) (w := w) (base := base) T
  have G__law_odd_plug := ok__law_odd_plug (P := P) (w := w) (base := base) T
  have G__law_pick := ok__law_pick (P := P) (w := w) (base := base) T
  have G__law_plugs := ok__law_plugs (P := P) (w := w) (base := base) T
  have G__law_sockets := ok__law_sockets (P := P) (w := w) (base := base) T
  have G__law_wrong := ok__law_wrong (P := P) (w := w) (base := base) T
  have G_fullest := ok_fullest (P := P) (w := w) (base := base) T
  have G_holds := ok_holds (P := P) (w := w) (base := base) T
  refine fn_okP (k := 5) T.h_law.fn sc_law rfl fun cdv A outer s H E hr => ?_
  have tk : Takes (cxOf (L2.CX P w) P w K mg base N_law "law" (defScope s_law) T.a_law cdv A outer s H E) (fun c d _ H' => E c d H') := takes_of rfl rfl rfl rfl
  exact (dss_cons (ds_setS (i := 1) sc_law.nd (dv_callE tk (hr.mono (by decide)) ⟨G__law_draws, T.l__law_draws, T.h__law_draws.fn.kp, T.h__law_draws.bd⟩ (da_val (de_var 0) da_nil)))
      (dss_cons (ds_par (i := 10) (j := 11) rfl sc_law.nd (by decide) (da_val (de_val (dv_callE tk (hr.mono (by decide)) ⟨G__law_sockets, T.l__law_sockets, T.h__law_sockets.fn.kp, T.h__law_sockets.bd⟩ (da_cons (dv_var 1) (da_val de_int da_nil)))) (da_val (de_val (dv_callE tk (hr.mono (by decide)) ⟨G__law_plugs, T.l__law_plugs, T.h__law_plugs.fn.kp, T.h__law_plugs.bd⟩ (da_cons (dv_var 1) (da_val de_int da_nil)))) da_nil)) (by rfl))
      (dss_cons (ds_par (i := 12) (j := 4) rfl sc_law.nd (by decide) (da_val (de_make tk (hr.mono (by decide)) T.m_Strip G_Strip_d__init_d_ T.k_Strip.gl T.h_Strip_d__init_d_.bd (da_val (de_var 10) da_nil)) (da_val (de_call tk (hr.mono (by decide)) ⟨G__law_counts, T.l__law_counts, T.h__law_counts.fn.kp, T.h__law_counts.bd⟩ (da_val (de_var 10) (da_val (de_var 11) da_nil))) da_nil)) (by rfl))
      (dss_cons (ds_newL (i := 2) sc_law.nd da_nil)
      (dss_cons (ds_for (passes_of rfl) rfl (di_seq (de_var 4)) (dg_name (i := 3) sc_law.nd)
      (dss_cons (ds_setLc (i := 13) (own := [("_law_one", 16)]) rfl sc_law.nd (sw_true rfl rfl rfl (by decide +kernel)) (di_seq (de_var 4)) (blkOk_by (own := [("_law_one", 16)]) (N := N_law) (sc := defScope s_law) (by decide +kernel)) (fun _ _ _ _ _ => (dg_name (i := 16) sc_law.nd)) (fun _ _ _ _ _ => (dts_one (dt_c (cmp_ne hr) (de_var 16) (de_var 3)))) (fun _ _ _ _ _ => (de_var 16)) (by decide))
      (dss_cons (ds_for (passes_of rfl) rfl (di_range1 T.b_range (de_callB T.b_len call_len cop_len (da_val (de_var 11) da_nil))) (dg_name (i := 14) sc_law.nd)
      (dss_one (ds_setLc (i := 13) (own := [("_law_one", 16)]) rfl sc_law.nd (sw_true rfl rfl rfl (by decide +kernel)) (di_seq (de_var 13)) (blkOk_by (own := [("_law_one", 16)]) (N := N_law) (sc := defScope s_law) (by decide +kernel)) (fun _ _ _ _ _ => (dg_name (i := 16) sc_law.nd)) (fun _ _ _ _ _ => (dts_one (dt_c cmp_ge (de_sub1 (de_var 16) (de_var 14)) (de_sub1 (de_var 3) (de_var 14))))) (fun _ _ _ _ _ => (de_var 16)) (by decide))))
      (dss_one (ds_if (dt_c (cmp_eq hr) (de_var 13) (de_lst da_nil)) (dss_one (ds_app 2 (de_var 3))) dss_nil)))))
      (dss_cons (ds_if (dt_cO (cmp_ne hr) givesB_ne (de_call tk (hr.mono (by decide)) ⟨G_fullest, T.l_fullest, T.h_fullest.fn.kp, T.h_fullest.bd⟩ (da_val (de_var 12) (da_val (de_var 11) da_nil))) (dl_var 2)) (dss_one (ds_ret de_bl)) dss_nil)
      (dss_cons (ds_for (passes_of rfl) rfl (di_range1 T.b_range de_int) (dg_name (i := 5) sc_law.nd)
      (dss_cons (ds_set (i := 3) sc_law.nd (de_callTy T.b_tuple call_tuple_of cop_tuple (da_val (de_lc (own := [("_law_k", 14)]) rfl sc_law.nd (di_seq (de_var 11)) (blkOk_by (own := [("_law_k", 14)]) (N := N_law) (sc := defScope s_law) (by decide +kernel)) (fun _ _ _ _ _ => (dg_name (i := 14) sc_law.nd)) (fun _ _ _ _ _ => dts_nil) (fun _ _ _ _ _ => (de_val (dv_callE takes0 (hr.mono (by decide)) ⟨G__law_pick, T.l__law_pick, T.h__law_pick.fn.kp, T.h__law_pick.bd⟩ (da_cons (dv_var 1) (da_val de_int da_nil))))) (by decide)) da_nil)))
      (dss_one (ds_if (dt_c (cmp_ne hr) (de_call tk (hr.mono (by decide)) ⟨G_holds, T.l_holds, T.h_holds.fn.kp, T.h_holds.bd⟩ (da_val (de_var 12) (da_val (de_var 11) (da_val (de_var 3) da_nil)))) (de_c (cmp_inD (hr.mono (Nat.zero_le _))) (de_var 3) (de_var 4))) (dss_one (ds_ret de_bl)) dss_nil))))
      (dss_cons (ds_set (i := 6) sc_law.nd (de_lst (da_val de_non (da_val (de_callTy T.b_list call_list_of cop_list (da_val (de_var 3) da_nil)) (da_val (de_add (de_var 3) (de_tup (da_val de_int da_nil))) (da_val (de_slice (de_var 3) (do_some de_int) do_none) (da_val (de_add (de_tup (da_val de_int da_nil)) (de_slice (de_var 3) (do_some de_int) do_none)) (da_val (de_add (de_tup (da_val (de_neg de_int) da_nil)) (de_slice (de_var 3) (do_some de_int) do_none)) (da_val (de_add (de_tup (da_val de_bl da_nil)) (de_slice (de_var 3) (do_some de_int) do_none)) da_nil)))))))))
      (dss_cons (ds_par (i := 7) (j := 15) rfl sc_law.nd (by decide) (da_val (de_val (dv_callE tk (hr.mono (by decide)) ⟨G__law_pick, T.l__law_pick, T.h__law_pick.fn.kp, T.h__law_pick.bd⟩ (da_cons (dv_var 1) (da_val (de_callB T.b_len call_len cop_len (da_val (de_var 3) da_nil)) da_nil)))) (da_val (de_sub1 (de_lst (da_val de_int (da_val (de_neg de_int) (da_val de_bl (da_val de_non (da_val de_str da_nil)))))) (de_val (dv_callE tk (hr.mono (by decide)) ⟨G__law_pick, T.l__law_pick, T.h__law_pick.fn.kp, T.h__law_pick.bd⟩ (da_cons (dv_var 1) (da_val de_int da_nil))))) da_nil)) (by rfl))
      (dss_cons (ds_set (i := 6) sc_law.nd (de_add (de_var 6) (de_mulB (de_lst (da_val (de_add (de_add (de_slice (de_var 3) do_none (do_some (de_var 7))) (de_tup (da_val (de_var 15) da_nil))) (de_slice (de_var 3) (do_some (de_add (de_var 7) de_int)) do_none)) da_nil)) de_int)))
      (dss_cons (ds_if (dt_c (cmp_ne hr) (de_call tk (hr.mono (by decide)) ⟨G__law_wrong, T.l__law_wrong, T.h__law_wrong.fn.kp, T.h__law_wrong.bd⟩ (da_val (de_var 12) (da_val (de_var 11) (da_val (de_sub1 (de_var 6) (de_val (dv_callE tk (hr.mono (by decide)) ⟨G__law_pick, T.l__law_pick, T.h__law_pick.fn.kp, T.h__law_pick.bd⟩ (da_cons (dv_var 1) (da_val de_int da_nil))))) da_nil)))) de_str) (dss_one (ds_ret de_bl)) dss_nil)
      (dss_cons (ds_set (i := 7) sc_law.nd (de_val (dv_callE tk (hr.mono (by decide)) ⟨G__law_pick, T.l__law_pick, T.h__law_pick.fn.kp, T.h__law_pick.bd⟩ (da_cons (dv_var 1) (da_val (de_callB T.b_len call_len cop_len (da_val (de_var 11) da_nil)) da_nil)))))
      (dss_cons (ds_set (i := 8) sc_law.nd (de_add (de_add (de_slice (de_var 11) do_none (do_some (de_var 7))) (de_tup (da_val (de_val (dv_callE tk (hr.mono (by decide)) ⟨G__law_odd_plug, T.l__law_odd_plug, T.h__law_odd_plug.fn.kp, T.h__law_odd_plug.bd⟩ (da_cons (dv_var 1) da_nil))) da_nil))) (de_slice (de_var 11) (do_some (de_add (de_var 7) de_int)) do_none)))
      (dss_cons (ds_set (i := 9) sc_law.nd (de_sub1 (de_lst (da_val de_non (da_val de_str da_nil))) (de_val (dv_callE tk (hr.mono (by decide)) ⟨G__law_pick, T.l__law_pick, T.h__law_pick.fn.kp, T.h__law_pick.bd⟩ (da_cons (dv_var 1) (da_val de_int da_nil))))))
      (dss_cons (ds_if (dt_c (cmp_ne hr) (de_call tk (hr.mono (by decide)) ⟨G__law_wrong, T.l__law_wrong, T.h__law_wrong.fn.kp, T.h__law_wrong.bd⟩ (da_val (de_var 12) (da_val (de_var 8) (da_val (de_var 9) da_nil)))) (de_lst (da_val de_str (da_val (de_var 7) da_nil)))) (dss_one (ds_ret de_bl)) dss_nil)
      (dss_one (ds_ret (de_c (cmp_eq hr) (de_call tk (hr.mono (by decide)) ⟨G__law_wrong, T.l__law_wrong, T.h__law_wrong.fn.kp, T.h__law_wrong.bd⟩ (da_val (de_var 12) (da_val (de_mulA (de_tup (da_val (de_tup (da_val de_int (da_val de_int (da_val de_bl da_nil)))) da_nil)) de_int) (da_val (de_var 9) da_nil)))) (de_lst (da_val de_str (da_val de_non da_nil)))))))))))))))))))))
end K12
namespace K12
open PySem L2 Dl
theorem all_mk {l : PySem.W.OpenLaw} {w : World} {K : PySem.W.Frag} {h : Heap} {mg : Str → Option Value} {fa : Addr} (X : K.In h) (G : h.Ns mainGlobals mg) (hfa : mg "law" = some (.ref fa))
    {c_Strip : Addr}
    {c_BadCounts : Addr}
    {c_BadPlugs : Addr}
    {c_BadSockets : Addr}
    {c_StripError : Addr}
    {f0 : Addr} {od0 an0 : Option Addr} {sl0 : Array (Option Value)} {oc0 kV0 dc0 pm0 cd0 ct0 : Value}
    {f1 : Addr} {od1 an1 : Option Addr} {sl1 : Array (Option Value)} {oc1 kV1 dc1 pm1 cd1 ct1 : Value}
    {f2 : Addr} {od2 an2 : Option Addr} {sl2 : Array (Option Value)} {oc2 kV2 dc2 pm2 cd2 ct2 : Value}
    {f3 : Addr} {od3 an3 : Option Addr} {sl3 : Array (Option Value)} {oc3 kV3 dc3 pm3 cd3 ct3 : Value}
    {f4 : Addr} {od4 an4 : Option Addr} {sl4 : Array (Option Value)} {oc4 kV4 dc4 pm4 cd4 ct4 : Value}
    {f5 : Addr} {od5 an5 : Option Addr} {sl5 : Array (Option Value)} {oc5 kV5 dc5 pm5 cd5 ct5 : Value}
    {f6 : Addr} {od6 an6 : Option Addr} {sl6 : Array (Option Value)} {oc6 kV6 dc6 pm6 cd6 ct6 : Value}
    {f7 : Addr} {od7 an7 : Option Addr} {sl7 : Array (Option Value)} {oc7 kV7 dc7 pm7 cd7 ct7 : Value}
    {f8 : Addr} {od8 an8 : Option Addr} {sl8 : Array (Option Value)} {oc8 kV8 dc8 pm8 cd8 ct8 : Value}
    {f9 : Addr} {od9 an9 : Option Addr} {sl9 : Array (Option Value)} {oc9 kV9 dc9 pm9 cd9 ct9 : Value}
    {f10 : Addr} {od10 an10 : Option Addr} {sl10 : Array (Option Value)} {oc10 kV10 dc10 pm10 cd10 ct10 : Value}
    {f11 : Addr} {od11 an11 : Option Addr} {sl11 : Array (Option Value)} {oc11 kV11 dc11 pm11 cd11 ct11 : Value}
    {f12 : Addr} {od12 an12 : Option Addr} {sl12 : Array (Option Value)} {oc12 kV12 dc12 pm12 cd12 ct12 : Value}
    {f13 : Addr} {od13 an13 : Option Addr} {sl13 : Array (Option Value)} {oc13 kV13 dc13 pm13 cd13 ct13 : Value}
    {f14 : Addr} {od14 an14 : Option Addr} {sl14 : Array (Option Value)} {oc14 kV14 dc14 pm14 cd14 ct14 : Value}
    {f15 : Addr} {od15 an15 : Option Addr} {sl15 : Array (Option Value)} {oc15 kV15 dc15 pm15 cd15 ct15 : Value}
    {f16 : Addr} {od16 an16 : Option Addr} {sl16 : Array (Option Value)} {oc16 kV16 dc16 pm16 cd16 ct16 : Value}
    {f17 : Addr} {od17 an17 : Option Addr} {sl17 : Array (Option Value)} {oc17 kV17 dc17 pm17 cd17 ct17 : Value}
    {f18 : Addr} {od18 an18 : Option Addr} {sl18 : Array (Option Value)} {oc18 kV18 dc18 pm18 cd18 ct18 : Value}
    {f19 : Addr} {od19 an19 : Option Addr} {sl19 : Array (Option Value)} {oc19 kV19 dc19 pm19 cd19 ct19 : Value}
    {f20 : Addr} {od20 an20 : Option Addr} {sl20 : Array (Option Value)} {oc20 kV20 dc20 pm20 cd20 ct20 : Value}
    {f21 : Addr} {od21 an21 : Option Addr} {sl21 : Array (Option Value)} {oc21 kV21 dc21 pm21 cd21 ct21 : Value}
    {f22 : Addr} {od22 an22 : Option Addr} {sl22 : Array (Option Value)} {oc22 kV22 dc22 pm22 cd22 ct22 : Value}
    {f23 : Addr} {od23 an23 : Option Addr} {sl23 : Array (Option Value)} {oc23 kV23 dc23 pm23 cd23 ct23 : Value}
    {t_FAR : Tok}
    {t_MOST_AT : Tok}
    {t_MOST_KINDS : Tok}
    {t_MOST_SIDE : Tok}
    {t_MOST_SOCKETS : Tok}
    (aC_Strip : PySem.W.nsIn K mainGlobals "Strip" = some (some (.ref c_Strip)))
    (aE_BadCounts : PySem.W.nsIn K mainGlobals "BadCounts" = some (some (.ref c_BadCounts)))
    (aE_BadPlugs : PySem.W.nsIn K mainGlobals "BadPlugs" = some (some (.ref c_BadPlugs)))
    (aE_BadSockets : PySem.W.nsIn K mainGlobals "BadSockets" = some (some (.ref c_BadSockets)))
    (aE_StripError : PySem.W.nsIn K mainGlobals "StripError" = some (some (.ref c_StripError)))
    (a0 : PySem.W.findIn K (.ref c_BadPlugs) "__init__" = some (some (.ref f0)))
    (i0 : PySem.W.isFn K (.ref f0) = true)
    (l0 : K.lookup f0 = some ⟨oc0, od0, .func (PySem.W.fnOf "__init__" "BadPlugs.__init__" (defArgs s_BadPlugs_d__init_d_) (defBody s_BadPlugs_d__init_d_) (defScope s_BadPlugs_d__init_d_) .none kV0 dc0 pm0 an0 cd0 ct0), sl0⟩)
    (c0 : PySem.W.codeIn K cd0 "BadPlugs.__init__" = true)
    (k0 : PySem.W.keepIn K (.ref f0) = true)
    (a1 : PySem.W.nsIn K mainGlobals "_law_draws" = some (some (.ref f1)))
    (l1 : K.lookup f1 = some ⟨oc1, od1, .func (PySem.W.fnOf "_law_draws" "_law_draws" (defArgs s__law_draws) (defBody s__law_draws) (defScope s__law_draws) .none kV1 dc1 pm1 an1 cd1 ct1), sl1⟩)
    (c1 : PySem.W.codeIn K cd1 "_law_draws" = true)
    (k1 : PySem.W.keepIn K (.ref f1) = true)
    (a2 : PySem.W.nsIn K mainGlobals "_law_pick" = some (some (.ref f2)))
    (l2 : K.lookup f2 = some ⟨oc2, od2, .func (PySem.W.fnOf "_law_pick" "_law_pick" (defArgs s__law_pick) (defBody s__law_pick) (defScope s__law_pick) .none kV2 dc2 pm2 an2 cd2 ct2), sl2⟩)
    (c2 : PySem.W.codeIn K cd2 "_law_pick" = true)
    (k2 : PySem.W.keepIn K (.ref f2) = true)
    (a3 : PySem.W.nsIn K mainGlobals "_law_sockets" = some (some (.ref f3)))
    (l3 : K.lookup f3 = some ⟨oc3, od3, .func (PySem.W.fnOf "_law_sockets" "_law_sockets" (defArgs s__law_sockets) (defBody s__law_sockets) (defScope s__law_sockets) .none kV3 dc3 pm3 an3 cd3 ct3), sl3⟩)
    (c3 : PySem.W.codeIn K cd3 "_law_sockets" = true)
    (k3 : PySem.W.keepIn K (.ref f3) = true)
    (a4 : PySem.W.nsIn K mainGlobals "_law_plug" = some (some (.ref f4)))
    (l4 : K.lookup f4 = some ⟨oc4, od4, .func (PySem.W.fnOf "_law_plug" "_law_plug" (defArgs s__law_plug) (defBody s__law_plug) (defScope s__law_plug) .none kV4 dc4 pm4 an4 cd4 ct4), sl4⟩)
    (c4 : PySem.W.codeIn K cd4 "_law_plug" = true)
    (k4 : PySem.W.keepIn K (.ref f4) = true)
    (a5 : PySem.W.nsIn K mainGlobals "_law_plugs" = some (some (.ref f5)))
    (l5 : K.lookup f5 = some ⟨oc5, od5, .func (PySem.W.fnOf "_law_plugs" "_law_plugs" (defArgs s__law_plugs) (defBody s__law_plugs) (defScope s__law_plugs) .none kV5 dc5 pm5 an5 cd5 ct5), sl5⟩)
    (c5 : PySem.W.codeIn K cd5 "_law_plugs" = true)
    (k5 : PySem.W.keepIn K (.ref f5) = true)
    (a6 : PySem.W.nsIn K mainGlobals "is_from" = some (some (.ref f6)))
    (l6 : K.lookup f6 = some ⟨oc6, od6, .func (PySem.W.fnOf "is_from" "is_from" (defArgs s_is_from) (defBody s_is_from) (defScope s_is_from) .none kV6 dc6 pm6 an6 cd6 ct6), sl6⟩)
    (c6 : PySem.W.codeIn K cd6 "is_from" = true)
    (k6 : PySem.W.keepIn K (.ref f6) = true)
    (a7 : PySem.W.findIn K (.ref c_Strip) "__init__" = some (some (.ref f7)))
    (i7 : PySem.W.isFn K (.ref f7) = true)
    (l7 : K.lookup f7 = some ⟨oc7, od7, .func (PySem.W.fnOf "__init__" "Strip.__init__" (defArgs s_Strip_d__init_d_) (defBody s_Strip_d__init_d_) (defScope s_Strip_d__init_d_) .none kV7 dc7 pm7 an7 cd7 ct7), sl7⟩)
    (c7 : PySem.W.codeIn K cd7 "Strip.__init__" = true)
    (k7 : PySem.W.keepIn K (.ref f7) = true)
    (a8 : PySem.W.nsIn K mainGlobals "_law_body" = some (some (.ref f8)))
    (l8 : K.lookup f8 = some ⟨oc8, od8, .func (PySem.W.fnOf "_law_body" "_law_body" (defArgs s__law_body) (defBody s__law_body) (defScope s__law_body) .none kV8 dc8 pm8 an8 cd8 ct8), sl8⟩)
    (c8 : PySem.W.codeIn K cd8 "_law_body" = true)
    (k8 : PySem.W.keepIn K (.ref f8) = true)
    (a9 : PySem.W.nsIn K mainGlobals "_law_can" = some (some (.ref f9)))
    (l9 : K.lookup f9 = some ⟨oc9, od9, .func (PySem.W.fnOf "_law_can" "_law_can" (defArgs s__law_can) (defBody s__law_can) (defScope s__law_can) .none kV9 dc9 pm9 an9 cd9 ct9), sl9⟩)
    (c9 : PySem.W.codeIn K cd9 "_law_can" = true)
    (k9 : PySem.W.keepIn K (.ref f9) = true)
    (a10 : PySem.W.nsIn K mainGlobals "_law_counts" = some (some (.ref f10)))
    (l10 : K.lookup f10 = some ⟨oc10, od10, .func (PySem.W.fnOf "_law_counts" "_law_counts" (defArgs s__law_counts) (defBody s__law_counts) (defScope s__law_counts) .none kV10 dc10 pm10 an10 cd10 ct10), sl10⟩)
    (c10 : PySem.W.codeIn K cd10 "_law_counts" = true)
    (k10 : PySem.W.keepIn K (.ref f10) = true)
    (a11 : PySem.W.nsIn K mainGlobals "is_plug" = some (some (.ref f11)))
    (l11 : K.lookup f11 = some ⟨oc11, od11, .func (PySem.W.fnOf "is_plug" "is_plug" (defArgs s_is_plug) (defBody s_is_plug) (defScope s_is_plug) .none kV11 dc11 pm11 an11 cd11 ct11), sl11⟩)
    (c11 : PySem.W.codeIn K cd11 "is_plug" = true)
    (k11 : PySem.W.keepIn K (.ref f11) = true)
    (a12 : PySem.W.nsIn K mainGlobals "check_plugs" = some (some (.ref f12)))
    (l12 : K.lookup f12 = some ⟨oc12, od12, .func (PySem.W.fnOf "check_plugs" "check_plugs" (defArgs s_check_plugs) (defBody s_check_plugs) (defScope s_check_plugs) .none kV12 dc12 pm12 an12 cd12 ct12), sl12⟩)
    (c12 : PySem.W.codeIn K cd12 "check_plugs" = true)
    (k12 : PySem.W.keepIn K (.ref f12) = true)
    (a13 : PySem.W.nsIn K mainGlobals "can_turn" = some (some (.ref f13)))
    (l13 : K.lookup f13 = some ⟨oc13, od13, .func (PySem.W.fnOf "can_turn" "can_turn" (defArgs s_can_turn) (defBody s_can_turn) (defScope s_can_turn) .none kV13 dc13 pm13 an13 cd13 ct13), sl13⟩)
    (c13 : PySem.W.codeIn K cd13 "can_turn" = true)
    (k13 : PySem.W.keepIn K (.ref f13) = true)
    (a14 : PySem.W.nsIn K mainGlobals "stands_of" = some (some (.ref f14)))
    (l14 : K.lookup f14 = some ⟨oc14, od14, .func (PySem.W.fnOf "stands_of" "stands_of" (defArgs s_stands_of) (defBody s_stands_of) (defScope s_stands_of) .none kV14 dc14 pm14 an14 cd14 ct14), sl14⟩)
    (c14 : PySem.W.codeIn K cd14 "stands_of" = true)
    (k14 : PySem.W.keepIn K (.ref f14) = true)
    (a15 : PySem.W.nsIn K mainGlobals "sides" = some (some (.ref f15)))
    (l15 : K.lookup f15 = some ⟨oc15, od15, .func (PySem.W.fnOf "sides" "sides" (defArgs s_sides) (defBody s_sides) (defScope s_sides) .none kV15 dc15 pm15 an15 cd15 ct15), sl15⟩)
    (c15 : PySem.W.codeIn K cd15 "sides" = true)
    (k15 : PySem.W.keepIn K (.ref f15) = true)
    (a16 : PySem.W.nsIn K mainGlobals "body" = some (some (.ref f16)))
    (l16 : K.lookup f16 = some ⟨oc16, od16, .func (PySem.W.fnOf "body" "body" (defArgs s_body) (defBody s_body) (defScope s_body) .none kV16 dc16 pm16 an16 cd16 ct16), sl16⟩)
    (c16 : PySem.W.codeIn K cd16 "body" = true)
    (k16 : PySem.W.keepIn K (.ref f16) = true)
    (a17 : PySem.W.nsIn K mainGlobals "all_counts" = some (some (.ref f17)))
    (l17 : K.lookup f17 = some ⟨oc17, od17, .func (PySem.W.fnOf "all_counts" "all_counts" (defArgs s_all_counts) (defBody s_all_counts) (defScope s_all_counts) .none kV17 dc17 pm17 an17 cd17 ct17), sl17⟩)
    (c17 : PySem.W.codeIn K cd17 "all_counts" = true)
    (k17 : PySem.W.keepIn K (.ref f17) = true)
    (a18 : PySem.W.nsIn K mainGlobals "is_within" = some (some (.ref f18)))
    (l18 : K.lookup f18 = some ⟨oc18, od18, .func (PySem.W.fnOf "is_within" "is_within" (defArgs s_is_within) (defBody s_is_within) (defScope s_is_within) .none kV18 dc18 pm18 an18 cd18 ct18), sl18⟩)
    (c18 : PySem.W.codeIn K cd18 "is_within" = true)
    (k18 : PySem.W.keepIn K (.ref f18) = true)
    (a19 : PySem.W.nsIn K mainGlobals "fullest" = some (some (.ref f19)))
    (l19 : K.lookup f19 = some ⟨oc19, od19, .func (PySem.W.fnOf "fullest" "fullest" (defArgs s_fullest) (defBody s_fullest) (defScope s_fullest) .none kV19 dc19 pm19 an19 cd19 ct19), sl19⟩)
    (c19 : PySem.W.codeIn K cd19 "fullest" = true)
    (k19 : PySem.W.keepIn K (.ref f19) = true)
    (a20 : PySem.W.nsIn K mainGlobals "holds" = some (some (.ref f20)))
    (l20 : K.lookup f20 = some ⟨oc20, od20, .func (PySem.W.fnOf "holds" "holds" (defArgs s_holds) (defBody s_holds) (defScope s_holds) .none kV20 dc20 pm20 an20 cd20 ct20), sl20⟩)
    (c20 : PySem.W.codeIn K cd20 "holds" = true)
    (k20 : PySem.W.keepIn K (.ref f20) = true)
    (a21 : PySem.W.nsIn K mainGlobals "_law_wrong" = some (some (.ref f21)))
    (l21 : K.lookup f21 = some ⟨oc21, od21, .func (PySem.W.fnOf "_law_wrong" "_law_wrong" (defArgs s__law_wrong) (defBody s__law_wrong) (defScope s__law_wrong) .none kV21 dc21 pm21 an21 cd21 ct21), sl21⟩)
    (c21 : PySem.W.codeIn K cd21 "_law_wrong" = true)
    (k21 : PySem.W.keepIn K (.ref f21) = true)
    (a22 : PySem.W.nsIn K mainGlobals "_law_odd_plug" = some (some (.ref f22)))
    (l22 : K.lookup f22 = some ⟨oc22, od22, .func (PySem.W.fnOf "_law_odd_plug" "_law_odd_plug" (defArgs s__law_odd_plug) (defBody s__law_odd_plug) (defScope s__law_odd_plug) .none kV22 dc22 pm22 an22 cd22 ct22), sl22⟩)
    (c22 : PySem.W.codeIn K cd22 "_law_odd_plug" = true)
    (k22 : PySem.W.keepIn K (.ref f22) = true)
    (a23 : PySem.W.nsIn K mainGlobals "law" = some (some (.ref f23)))
    (l23 : K.lookup f23 = some ⟨oc23, od23, .func (PySem.W.fnOf "law" "law" (defArgs s_law) (defBody s_law) (defScope s_law) .none kV23 dc23 pm23 an23 cd23 ct23), sl23⟩)
    (c23 : PySem.W.codeIn K cd23 "law" = true)
    (k23 : PySem.W.keepIn K (.ref f23) = true)
    (pg_Strip : PySem.W.plainGet K c_Strip Str.empty = true)
    (hd_Strip : PySem.W.hasDictIn K c_Strip = true)
    (po_Strip : PySem.W.plainOver K c_Strip = true)
    (sa_Strip : PySem.W.findIn K (.ref c_Strip) "__setattr__" = some (some (.builtin "object.__setattr__")))
    (mk_Strip : PySem.W.makesIn K c_Strip = true)
    (kc_Strip : PySem.W.keepIn K (.ref c_Strip) = true)
    (ex_BadCounts : PySem.W.excIn K c_BadCounts veMro "ValueError.__new__" = true)
    (ex_BadSockets : PySem.W.excIn K c_BadSockets veMro "ValueError.__new__" = true)
    (kp_BadCounts : PySem.W.keepIn K (.ref c_BadCounts) = true)
    (sb_BadCounts : PySem.W.subIn K (.ref c_BadCounts) (.type "BaseException") = some true)
    (ty_BadCounts : PySem.W.typeIn K (.ref c_BadCounts) = some (.type "type"))
    (kp_BadPlugs : PySem.W.keepIn K (.ref c_BadPlugs) = true)
    (sb_BadPlugs : PySem.W.subIn K (.ref c_BadPlugs) (.type "BaseException") = some true)
    (ty_BadPlugs : PySem.W.typeIn K (.ref c_BadPlugs) = some (.type "type"))
    (kp_BadSockets : PySem.W.keepIn K (.ref c_BadSockets) = true)
    (sb_BadSockets : PySem.W.subIn K (.ref c_BadSockets) (.type "BaseException") = some true)
    (ty_BadSockets : PySem.W.typeIn K (.ref c_BadSockets) = some (.type "type"))
    (ox_BadPlugs : oexB K c_BadPlugs = true)
    (osa_BadPlugs : PySem.W.findIn K (.ref c_BadPlugs) "__setattr__" = some (some (.builtin "object.__setattr__")))
    (en_BadPlugs_index : PySem.W.findIn K (.ref c_BadPlugs) "index" = some none)
    (xsp : PySem.W.specialIn K (.builtin "object.__class__") "__get__" = some (some (.builtin "getset_descriptor.__get__")))
    (xtk : PySem.W.takesIn K (.builtin "object.__class__") = some true)
    (xg_BadCounts : PySem.W.findIn K (.ref c_BadCounts) "__getattribute__" = some (some (.builtin "BaseException.__getattribute__")))
    (xk_BadCounts : PySem.W.findIn K (.ref c_BadCounts) "__getattr__" = some none)
    (xs_BadCounts : PySem.W.subIn K (.ref c_BadCounts) (.type "BaseException") = some true)
    (xd_BadCounts : PySem.W.hasDictIn K c_BadCounts = true)
    (xa_BadCounts : PySem.W.findIn K (.ref c_BadCounts) "__class__" = some (some (.builtin "object.__class__")))
    (xm_BadCounts : PySem.W.mroIn K c_BadCounts (.type "object") = some true)
    (xt_BadCounts : PySem.W.typeIn K (.ref c_BadCounts) = some (.type "type"))
    (xx_BadCounts : PySem.W.subIn K (.ref c_BadCounts) (.ref c_BadCounts) = some true)
    (xg_BadPlugs : PySem.W.findIn K (.ref c_BadPlugs) "__getattribute__" = some (some (.builtin "BaseException.__getattribute__")))
    (xk_BadPlugs : PySem.W.findIn K (.ref c_BadPlugs) "__getattr__" = some none)
    (xs_BadPlugs : PySem.W.subIn K (.ref c_BadPlugs) (.type "BaseException") = some true)
    (xd_BadPlugs : PySem.W.hasDictIn K c_BadPlugs = true)
    (xa_BadPlugs : PySem.W.findIn K (.ref c_BadPlugs) "__class__" = some (some (.builtin "object.__class__")))
    (xm_BadPlugs : PySem.W.mroIn K c_BadPlugs (.type "object") = some true)
    (xt_BadPlugs : PySem.W.typeIn K (.ref c_BadPlugs) = some (.type "type"))
    (xx_BadPlugs : PySem.W.subIn K (.ref c_BadPlugs) (.ref c_BadPlugs) = some true)
    (xg_BadSockets : PySem.W.findIn K (.ref c_BadSockets) "__getattribute__" = some (some (.builtin "BaseException.__getattribute__")))
    (xk_BadSockets : PySem.W.findIn K (.ref c_BadSockets) "__getattr__" = some none)
    (xs_BadSockets : PySem.W.subIn K (.ref c_BadSockets) (.type "BaseException") = some true)
    (xd_BadSockets : PySem.W.hasDictIn K c_BadSockets = true)
    (xa_BadSockets : PySem.W.findIn K (.ref c_BadSockets) "__class__" = some (some (.builtin "object.__class__")))
    (xm_BadSockets : PySem.W.mroIn K c_BadSockets (.type "object") = some true)
    (xt_BadSockets : PySem.W.typeIn K (.ref c_BadSockets) = some (.type "type"))
    (xx_BadSockets : PySem.W.subIn K (.ref c_BadSockets) (.ref c_BadSockets) = some true)
    (xg_StripError : PySem.W.findIn K (.ref c_StripError) "__getattribute__" = some (some (.builtin "BaseException.__getattribute__")))
    (xk_StripError : PySem.W.findIn K (.ref c_StripError) "__getattr__" = some none)
    (xs_StripError : PySem.W.subIn K (.ref c_StripError) (.type "BaseException") = some true)
    (xd_StripError : PySem.W.hasDictIn K c_StripError = true)
    (xa_StripError : PySem.W.findIn K (.ref c_StripError) "__class__" = some (some (.builtin "object.__class__")))
    (xm_StripError : PySem.W.mroIn K c_StripError (.type "object") = some true)
    (xt_StripError : PySem.W.typeIn K (.ref c_StripError) = some (.type "type"))
    (xx_StripError : PySem.W.subIn K (.ref c_StripError) (.ref c_StripError) = some true)
    (su_BadCounts_BadCounts : PySem.W.subIn K (.ref c_BadCounts) (.ref c_BadCounts) = some true)
    (su_BadCounts_BadPlugs : PySem.W.subIn K (.ref c_BadCounts) (.ref c_BadPlugs) = some false)
    (su_BadCounts_StripError : PySem.W.subIn K (.ref c_BadCounts) (.ref c_StripError) = some true)
    (su_BadPlugs_BadCounts : PySem.W.subIn K (.ref c_BadPlugs) (.ref c_BadCounts) = some false)
    (su_BadPlugs_BadPlugs : PySem.W.subIn K (.ref c_BadPlugs) (.ref c_BadPlugs) = some true)
    (su_BadPlugs_StripError : PySem.W.subIn K (.ref c_BadPlugs) (.ref c_StripError) = some true)
    (su_BadSockets_BadCounts : PySem.W.subIn K (.ref c_BadSockets) (.ref c_BadCounts) = some false)
    (su_BadSockets_BadPlugs : PySem.W.subIn K (.ref c_BadSockets) (.ref c_BadPlugs) = some false)
    (su_BadSockets_StripError : PySem.W.subIn K (.ref c_BadSockets) (.ref c_StripError) = some true)
    (xf_BadPlugs_index : PySem.W.findIn K (.ref c_BadPlugs) "index" = some none)
    (no_Strip_rows : PySem.W.findIn K (.ref c_Strip) "rows" = some none)
    (z_all : PySem.W.nsIn K mainGlobals "all" = some none)
    (z_bool : PySem.W.nsIn K mainGlobals "bool" = some none)
    (z_dict : PySem.W.nsIn K mainGlobals "dict" = some none)
    (z_enumerate : PySem.W.nsIn K mainGlobals "enumerate" = some none)
    (z_int : PySem.W.nsIn K mainGlobals "int" = some none)
    (z_isinstance : PySem.W.nsIn K mainGlobals "isinstance" = some none)
    (z_len : PySem.W.nsIn K mainGlobals "len" = some none)
    (z_list : PySem.W.nsIn K mainGlobals "list" = some none)
    (z_range : PySem.W.nsIn K mainGlobals "range" = some none)
    (z_set : PySem.W.nsIn K mainGlobals "set" = some none)
    (z_sorted : PySem.W.nsIn K mainGlobals "sorted" = some none)
    (z_tuple : PySem.W.nsIn K mainGlobals "tuple" = some none)
    (z_zip : PySem.W.nsIn K mainGlobals "zip" = some none)
    (y_FAR : PySem.W.nsIn K mainGlobals "FAR" = some (some (.int (-1000) t_FAR)))
    (y_MOST_AT : PySem.W.nsIn K mainGlobals "MOST_AT" = some (some (.int (300) t_MOST_AT)))
    (y_MOST_KINDS : PySem.W.nsIn K mainGlobals "MOST_KINDS" = some (some (.int (3) t_MOST_KINDS)))
    (y_MOST_SIDE : PySem.W.nsIn K mainGlobals "MOST_SIDE" = some (some (.int (60) t_MOST_SIDE)))
    (y_MOST_SOCKETS : PySem.W.nsIn K mainGlobals "MOST_SOCKETS" = some (some (.int (9) t_MOST_SOCKETS)))
    : ∃ fd : FuncData, (∀ (s : Shared) (v : Value), BindsTo s fd ⟨[v], []⟩ [("_law_script", v)]) ∧ ∀ base : Heap, K.In base → base.Ns mainGlobals mg → FnOk l.prog w K mg base (L2.CX l.prog w) 6 fa fd ["_law_script"] (spLaw K) := by
  have e := hfa.symm.trans (PySem.W.mg_of X G a23)
  cases e
  have F0 := fun_mk (st := s_BadPlugs_d__init_d_) l0 c0 k0
  have B0 := F0.binds (ps := ["self", "index"]) fun _ _ _ _ _ _ us hl => match us, hl with | [_, _], _ => rfl
  have F1 := fun_mk (st := s__law_draws) l1 c1 k1
  have B1 := F1.binds (ps := ["_law_script"]) fun _ _ _ _ _ _ us hl => match us, hl with | [_], _ => rfl
  have F2 := fun_mk (st := s__law_pick) l2 c2 k2
  have B2 := F2.binds (ps := ["_law_row", "_law_many"]) fun _ _ _ _ _ _ us hl => match us, hl with | [_, _], _ => rfl
  have F3 := fun_mk (st := s__law_sockets) l3 c3 k3
  have B3 := F3.binds (ps := ["_law_row", "_law_most"]) fun _ _ _ _ _ _ us hl => match us, hl with | [_, _], _ => rfl
  have F4 := fun_mk (st := s__law_plug) l4 c4 k4
  have B4 := F4.binds (ps := ["_law_row"]) fun _ _ _ _ _ _ us hl => match us, hl with | [_], _ => rfl
  have F5 := fun_mk (st := s__law_plugs) l5 c5 k5
  have B5 := F5.binds (ps := ["_law_row", "_law_most"]) fun _ _ _ _ _ _ us hl => match us, hl with | [_, _], _ => rfl
  have F6 := fun_mk (st := s_is_from) l6 c6 k6
  have B6 := F6.binds (ps := ["value", "low", "high"]) fun _ _ _ _ _ _ us hl => match us, hl with | [_, _, _], _ => rfl
  have F7 := fun_mk (st := s_Strip_d__init_d_) l7 c7 k7
  have B7 := F7.binds (ps := ["self", "sockets"]) fun _ _ _ _ _ _ us hl => match us, hl with | [_, _], _ => rfl
  have F8 := fun_mk (st := s__law_body) l8 c8 k8
  have B8 := F8.binds (ps := ["_law_sockets_here", "_law_plug_here", "_law_place"]) fun _ _ _ _ _ _ us hl => match us, hl with | [_, _, _], _ => rfl
  have F9 := fun_mk (st := s__law_can) l9 c9 k9
  have B9 := F9.binds (ps := ["_law_plug_here"]) fun _ _ _ _ _ _ us hl => match us, hl with | [_], _ => rfl
  have F10 := fun_mk (st := s__law_counts) l10 c10 k10
  have B10 := F10.binds (ps := ["_law_sockets_here", "_law_kinds"]) fun _ _ _ _ _ _ us hl => match us, hl with | [_, _], _ => rfl
  have F11 := fun_mk (st := s_is_plug) l11 c11 k11
  have B11 := F11.binds (ps := ["value"]) fun _ _ _ _ _ _ us hl => match us, hl with | [_], _ => rfl
  have F12 := fun_mk (st := s_check_plugs) l12 c12 k12
  have B12 := F12.binds (ps := ["value", "most"]) fun _ _ _ _ _ _ us hl => match us, hl with | [_, _], _ => rfl
  have F13 := fun_mk (st := s_can_turn) l13 c13 k13
  have B13 := F13.binds (ps := ["plug"]) fun _ _ _ _ _ _ us hl => match us, hl with | [_], _ => rfl
  have F14 := fun_mk (st := s_stands_of) l14 c14 k14
  have B14 := F14.binds (ps := ["plug"]) fun _ _ _ _ _ _ us hl => match us, hl with | [_], _ => rfl
  have F15 := fun_mk (st := s_sides) l15 c15 k15
  have B15 := F15.binds (ps := ["plug", "turned"]) fun _ _ _ _ _ _ us hl => match us, hl with | [_, _], _ => rfl
  have F16 := fun_mk (st := s_body) l16 c16 k16
  have B16 := F16.binds (ps := ["strip", "plug", "place"]) fun _ _ _ _ _ _ us hl => match us, hl with | [_, _, _], _ => rfl
  have F17 := fun_mk (st := s_all_counts) l17 c17 k17
  have B17 := F17.binds (ps := ["strip", "kinds"]) fun _ _ _ _ _ _ us hl => match us, hl with | [_, _], _ => rfl
  have F18 := fun_mk (st := s_is_within) l18 c18 k18
  have B18 := F18.binds (ps := ["one", "other"]) fun _ _ _ _ _ _ us hl => match us, hl with | [_, _], _ => rfl
  have F19 := fun_mk (st := s_fullest) l19 c19 k19
  have B19 := F19.binds (ps := ["strip", "kinds"]) fun _ _ _ _ _ _ us hl => match us, hl with | [_, _], _ => rfl
  have F20 := fun_mk (st := s_holds) l20 c20 k20
  have B20 := F20.binds (ps := ["strip", "kinds", "counts"]) fun _ _ _ _ _ _ us hl => match us, hl with | [_, _, _], _ => rfl
  have F21 := fun_mk (st := s__law_wrong) l21 c21 k21
  have B21 := F21.binds (ps := ["_law_strip", "_law_kinds", "_law_counts_here"]) fun _ _ _ _ _ _ us hl => match us, hl with | [_, _, _], _ => rfl
  have F22 := fun_mk (st := s__law_odd_plug) l22 c22 k22
  have B22 := F22.binds (ps := ["_law_row"]) fun _ _ _ _ _ _ us hl => match us, hl with | [_], _ => rfl
  have F23 := fun_mk (st := s_law) l23 c23 k23
  have B23 := F23.binds (ps := ["_law_script"]) fun _ _ _ _ _ _ us hl => match us, hl with | [_], _ => rfl
  let T : Env K mg := { a_BadPlugs_d__init_d_ := f0, d_BadPlugs_d__init_d_ := _, h_BadPlugs_d__init_d_ := ⟨F0, B0⟩, a__law_draws := f1, d__law_draws := _, h__law_draws := ⟨F1, B1⟩, l__law_draws := PySem.W.mg_of X G a1, a__law_pick := f2, d__law_pick := _, h__law_pick := ⟨F2, B2⟩, l__law_pick := PySem.W.mg_of X G a2, a__law_sockets := f3, d__law_sockets := _, h__law_sockets := ⟨F3, B3⟩, l__law_sockets := PySem.W.mg_of X G a3, a__law_plug := f4, d__law_plug := _, h__law_plug := ⟨F4, B4⟩, l__law_plug := PySem.W.mg_of X G a4, a__law_plugs := f5, d__law_plugs := _, h__law_plugs := ⟨F5, B5⟩, l__law_plugs := PySem.W.mg_of X G a5, a_is_from := f6, d_is_from := _, h_is_from := ⟨F6, B6⟩, l_is_from := PySem.W.mg_of X G a6, a_Strip_d__init_d_ := f7, d_Strip_d__init_d_ := _, h_Strip_d__init_d_ := ⟨F7, B7⟩, a__law_body := f8, d__law_body := _, h__law_body := ⟨F8, B8⟩, l__law_body := PySem.W.mg_of X G a8, a__law_can := f9, d__law_can := _, h__law_can := ⟨F9, B9⟩, l__law_can := PySem.W.mg_of X G a9, a__law_counts := f10, d__law_counts := _, h__law_counts := ⟨F10, B10⟩, l__law_counts := PySem.W.mg_of X G a10, a_is_plug := f11, d_is_plug := _, h_is_plug := ⟨F11, B11⟩, l_is_plug := PySem.W.mg_of X G a11, a_check_plugs := f12, d_check_plugs := _, h_check_plugs := ⟨F12, B12⟩, l_check_plugs := PySem.W.mg_of X G a12, a_can_turn := f13, d_can_turn := _, h_can_turn := ⟨F13, B13⟩, l_can_turn := PySem.W.mg_of X G a13, a_stands_of := f14, d_stands_of := _, h_stands_of := ⟨F14, B14⟩, l_stands_of := PySem.W.mg_of X G a14, a_sides := f15, d_sides := _, h_sides := ⟨F15, B15⟩, l_sides := PySem.W.mg_of X G a15, a_body := f16, d_body := _, h_body := ⟨F16, B16⟩, l_body := PySem.W.mg_of X G a16, a_all_counts := f17, d_all_counts := _, h_all_counts := ⟨F17, B17⟩, l_all_counts := PySem.W.mg_of X G a17, a_is_within := f18, d_is_within := _, h_is_within := ⟨F18, B18⟩, l_is_within := PySem.W.mg_of X G a18, a_fullest := f19, d_fullest := _, h_fullest := ⟨F19, B19⟩, l_fullest := PySem.W.mg_of X G a19, a_holds := f20, d_holds := _, h_holds := ⟨F20, B20⟩, l_holds := PySem.W.mg_of X G a20, a__law_wrong := f21, d__law_wrong := _, h__law_wrong := ⟨F21, B21⟩, l__law_wrong := PySem.W.mg_of X G a21, a__law_odd_plug := f22, d__law_odd_plug := _, h__law_odd_plug := ⟨F22, B22⟩, l__law_odd_plug := PySem.W.mg_of X G a22, a_law := fa, d_law := _, h_law := ⟨F23, B23⟩, l_law := PySem.W.mg_of X G a23, c_Strip := c_Strip, k_Strip := ⟨PySem.W.mg_of X G aC_Strip, ⟨pg_Strip, hd_Strip, po_Strip, sa_Strip⟩⟩, c_BadCounts := c_BadCounts, c_BadPlugs := c_BadPlugs, c_BadSockets := c_BadSockets, c_StripError := c_StripError, r_BadCounts := ⟨PySem.W.mg_of X G aE_BadCounts, ex_BadCounts, kp_BadCounts, sb_BadCounts, ty_BadCounts⟩, r_BadSockets := ⟨PySem.W.mg_of X G aE_BadSockets, ex_BadSockets, kp_BadSockets, sb_BadSockets, ty_BadSockets⟩, r_BadPlugs := ⟨PySem.W.mg_of X G aE_BadPlugs, ⟨oexB_ok ox_BadPlugs, osa_BadPlugs, sb_BadPlugs, ty_BadPlugs, kp_BadPlugs⟩, a0, isFn_ty i0⟩, no_BadPlugs_index := en_BadPlugs_index, x_BadCounts := ⟨PySem.W.mg_of X G aE_BadCounts, ⟨xg_BadCounts, xk_BadCounts, xs_BadCounts, xd_BadCounts, xa_BadCounts, xsp, xtk, xm_BadCounts⟩, xt_BadCounts, xx_BadCounts⟩, x_BadPlugs := ⟨PySem.W.mg_of X G aE_BadPlugs, ⟨xg_BadPlugs, xk_BadPlugs, xs_BadPlugs, xd_BadPlugs, xa_BadPlugs, xsp, xtk, xm_BadPlugs⟩, xt_BadPlugs, xx_BadPlugs⟩, x_BadSockets := ⟨PySem.W.mg_of X G aE_BadSockets, ⟨xg_BadSockets, xk_BadSockets, xs_BadSockets, xd_BadSockets, xa_BadSockets, xsp, xtk, xm_BadSockets⟩, xt_BadSockets, xx_BadSockets⟩, x_StripError := ⟨PySem.W.mg_of X G aE_StripError, ⟨xg_StripError, xk_StripError, xs_StripError, xd_StripError, xa_StripError, xsp, xtk, xm_StripError⟩, xt_StripError, xx_StripError⟩, s_BadCounts_BadCounts := su_BadCounts_BadCounts.trans (by rw [show subX "BadCounts" "BadCounts" = true from by decide +kernel]), s_BadCounts_BadPlugs := su_BadCounts_BadPlugs.trans (by rw [show subX "BadCounts" "BadPlugs" = false from by decide +kernel]), s_BadCounts_StripError := su_BadCounts_StripError.trans (by rw [show subX "BadCounts" "StripError" = true from by decide +kernel]), s_BadPlugs_BadCounts := su_BadPlugs_BadCounts.trans (by rw [show subX "BadPlugs" "BadCounts" = false from by decide +kernel]), s_BadPlugs_BadPlugs := su_BadPlugs_BadPlugs.trans (by rw [show subX "BadPlugs" "BadPlugs" = true from by decide +kernel]), s_BadPlugs_StripError := su_BadPlugs_StripError.trans (by rw [show subX "BadPlugs" "StripError" = true from by decide +kernel]), s_BadSockets_BadCounts := su_BadSockets_BadCounts.trans (by rw [show subX "BadSockets" "BadCounts" = false from by decide +kernel]), s_BadSockets_BadPlugs := su_BadSockets_BadPlugs.trans (by rw [show subX "BadSockets" "BadPlugs" = false from by decide +kernel]), s_BadSockets_StripError := su_BadSockets_StripError.trans (by rw [show subX "BadSockets" "StripError" = true from by decide +kernel]), f_BadPlugs_index := ⟨PySem.W.mg_of X G aE_BadPlugs, ⟨xg_BadPlugs, xk_BadPlugs, xs_BadPlugs, xd_BadPlugs⟩, xf_BadPlugs_index⟩, m_Strip := ⟨mk_Strip, a7, i7, kc_Strip⟩, n_Strip_rows := no_Strip_rows, b_all := PySem.W.mg_none_of X G z_all, b_bool := PySem.W.mg_none_of X G z_bool, b_dict := PySem.W.mg_none_of X G z_dict, b_enumerate := PySem.W.mg_none_of X G z_enumerate, b_int := PySem.W.mg_none_of X G z_int, b_isinstance := PySem.W.mg_none_of X G z_isinstance, b_len := PySem.W.mg_none_of X G z_len, b_list := PySem.W.mg_none_of X G z_list, b_range := PySem.W.mg_none_of X G z_range, b_set := PySem.W.mg_none_of X G z_set, b_sorted := PySem.W.mg_none_of X G z_sorted, b_tuple := PySem.W.mg_none_of X G z_tuple, b_zip := PySem.W.mg_none_of X G z_zip, t_FAR := t_FAR, g_FAR := PySem.W.mg_of X G y_FAR, t_MOST_AT := t_MOST_AT, g_MOST_AT := PySem.W.mg_of X G y_MOST_AT, t_MOST_KINDS := t_MOST_KINDS, g_MOST_KINDS := PySem.W.mg_of X G y_MOST_KINDS, t_MOST_SIDE := t_MOST_SIDE, g_MOST_SIDE := PySem.W.mg_of X G y_MOST_SIDE, t_MOST_SOCKETS := t_MOST_SOCKETS, g_MOST_SOCKETS := PySem.W.mg_of X G y_MOST_SOCKETS }
  exact ⟨T.d_law, fun s v => .of_eq rfl, fun base _ _ => law_ok (fun ns _ => Pk.law_true_30 ns) (ok_law T)⟩
end K12
open PySem PySem.W PyProof.Rows
set_option maxRecDepth 100000 in
set_option maxHeartbeats 0 in
theorem PySem.Challenge.cw_plugstrip_k12_numbers_of_kinds_holds : PySem.Challenge.rw_plugstrip_k12_numbers_of_kinds.Holds := by
  w_on; o_law; k_head; (case hw => w_witness2)
  k_fill
  refine Dl.walk (l := PySem.Challenge.rw_plugstrip_k12_numbers_of_kinds) (k := 6) (x := "_law_script") rfl rfl (by decide) (fun w h Y => PySem.W.kIn_of Y) ?F
  case F =>
    intro w mg fa h KX G hmg
    refine' K12.all_mk KX G hmg ?aC_Strip ?aE_BadCounts ?aE_BadPlugs ?aE_BadSockets ?aE_StripError ?a0 ?i0 ?l0 ?c0 ?k0 ?a1 ?l1 ?c1 ?k1 ?a2 ?l2 ?c2 ?k2 ?a3 ?l3 ?c3 ?k3 ?a4 ?l4 ?c4 ?k4 ?a5 ?l5 ?c5 ?k5 ?a6 ?l6 ?c6 ?k6 ?a7 ?i7 ?l7 ?c7 ?k7 ?a8 ?l8 ?c8 ?k8 ?a9 ?l9 ?c9 ?k9 ?a10 ?l10 ?c10 ?k10 ?a11 ?l11 ?c11 ?k11 ?a12 ?l12 ?c12 ?k12 ?a13 ?l13 ?c13 ?k13 ?a14 ?l14 ?c14 ?k14 ?a15 ?l15 ?c15 ?k15 ?a16 ?l16 ?c16 ?k16 ?a17 ?l17 ?c17 ?k17 ?a18 ?l18 ?c18 ?k18 ?a19 ?l19 ?c19 ?k19 ?a20 ?l20 ?c20 ?k20 ?a21 ?l21 ?c21 ?k21 ?a22 ?l22 ?c22 ?k22 ?a23 ?l23 ?c23 ?k23 ?pg_Strip ?hd_Strip ?po_Strip ?sa_Strip ?mk_Strip ?kc_Strip ?ex_BadCounts ?ex_BadSockets ?kp_BadCounts ?sb_BadCounts ?ty_BadCounts ?kp_BadPlugs ?sb_BadPlugs ?ty_BadPlugs ?kp_BadSockets ?sb_BadSockets ?ty_BadSockets ?ox_BadPlugs ?osa_BadPlugs ?en_BadPlugs_index ?xsp ?xtk ?xg_BadCounts ?xk_BadCounts ?xs_BadCounts ?xd_BadCounts ?xa_BadCounts ?xm_BadCounts ?xt_BadCounts ?xx_BadCounts ?xg_BadPlugs ?xk_BadPlugs ?xs_BadPlugs ?xd_BadPlugs ?xa_BadPlugs ?xm_BadPlugs ?xt_BadPlugs ?xx_BadPlugs ?xg_BadSockets ?xk_BadSockets ?xs_BadSockets ?xd_BadSockets ?xa_BadSockets ?xm_BadSockets ?xt_BadSockets ?xx_BadSockets ?xg_StripError ?xk_StripError ?xs_StripError ?xd_StripError ?xa_StripError ?xm_StripError ?xt_StripError ?xx_StripError ?su_BadCounts_BadCounts ?su_BadCounts_BadPlugs ?su_BadCounts_StripError ?su_BadPlugs_BadCounts ?su_BadPlugs_BadPlugs ?su_BadPlugs_StripError ?su_BadSockets_BadCounts ?su_BadSockets_BadPlugs ?su_BadSockets_StripError ?xf_BadPlugs_index ?no_Strip_rows ?z_all ?z_bool ?z_dict ?z_enumerate ?z_int ?z_isinstance ?z_len ?z_list ?z_range ?z_set ?z_sorted ?z_tuple ?z_zip ?y_FAR ?y_MOST_AT ?y_MOST_KINDS ?y_MOST_SIDE ?y_MOST_SOCKETS
    (case aC_Strip => k_is)
    (case aE_BadCounts => k_is)
    (case aE_BadPlugs => k_is)
    (case aE_BadSockets => k_is)
    (case aE_StripError => k_is)
    (case a0 => k_is)
    (case i0 => k_is)
    (case l0 => k_is)
    (case c0 => k_is)
    (case k0 => k_is)
    (case a1 => k_is)
    (case l1 => k_is)
    (case c1 => k_is)
    (case k1 => k_is)
    (case a2 => k_is)
    (case l2 => k_is)
    (case c2 => k_is)
    (case k2 => k_is)
    (case a3 => k_is)
    (case l3 => k_is)
    (case c3 => k_is)
    (case k3 => k_is)
    (case a4 => k_is)
    (case l4 => k_is)
    (case c4 => k_is)
    (case k4 => k_is)
    (case a5 => k_is)
    (case l5 => k_is)
    (case c5 => k_is)
    (case k5 => k_is)
    (case a6 => k_is)
    (case l6 => k_is)
    (case c6 => k_is)
    (case k6 => k_is)
    (case a7 => k_is)
    (case i7 => k_is)
    (case l7 => k_is)
    (case c7 => k_is)
    (case k7 => k_is)
    (case a8 => k_is)
    (case l8 => k_is)
    (case c8 => k_is)
    (case k8 => k_is)
    (case a9 => k_is)
    (case l9 => k_is)
    (case c9 => k_is)
    (case k9 => k_is)
    (case a10 => k_is)
    (case l10 => k_is)
    (case c10 => k_is)
    (case k10 => k_is)
    (case a11 => k_is)
    (case l11 => k_is)
    (case c11 => k_is)
    (case k11 => k_is)
    (case a12 => k_is)
    (case l12 => k_is)
    (case c12 => k_is)
    (case k12 => k_is)
    (case a13 => k_is)
    (case l13 => k_is)
    (case c13 => k_is)
    (case k13 => k_is)
    (case a14 => k_is)
    (case l14 => k_is)
    (case c14 => k_is)
    (case k14 => k_is)
    (case a15 => k_is)
    (case l15 => k_is)
    (case c15 => k_is)
    (case k15 => k_is)
    (case a16 => k_is)
    (case l16 => k_is)
    (case c16 => k_is)
    (case k16 => k_is)
    (case a17 => k_is)
    (case l17 => k_is)
    (case c17 => k_is)
    (case k17 => k_is)
    (case a18 => k_is)
    (case l18 => k_is)
    (case c18 => k_is)
    (case k18 => k_is)
    (case a19 => k_is)
    (case l19 => k_is)
    (case c19 => k_is)
    (case k19 => k_is)
    (case a20 => k_is)
    (case l20 => k_is)
    (case c20 => k_is)
    (case k20 => k_is)
    (case a21 => k_is)
    (case l21 => k_is)
    (case c21 => k_is)
    (case k21 => k_is)
    (case a22 => k_is)
    (case l22 => k_is)
    (case c22 => k_is)
    (case k22 => k_is)
    (case a23 => k_is)
    (case l23 => k_is)
    (case c23 => k_is)
    (case k23 => k_is)
    (case pg_Strip => k_is)
    (case hd_Strip => k_is)
    (case po_Strip => k_is)
    (case sa_Strip => k_is)
    (case mk_Strip => k_is)
    (case kc_Strip => k_is)
    (case ex_BadCounts => k_exc)
    (case ex_BadSockets => k_exc)
    (case kp_BadCounts => k_is)
    (case sb_BadCounts => k_is)
    (case ty_BadCounts => k_is)
    (case kp_BadPlugs => k_is)
    (case sb_BadPlugs => k_is)
    (case ty_BadPlugs => k_is)
    (case kp_BadSockets => k_is)
    (case sb_BadSockets => k_is)
    (case ty_BadSockets => k_is)
    (case ox_BadPlugs => (first | exact Eq.refl true | decide +kernel))
    (case osa_BadPlugs => k_is)
    (case en_BadPlugs_index => k_is)
    (case xsp => k_is)
    (case xtk => k_is)
    (case xg_BadCounts => k_is)
    (case xk_BadCounts => k_is)
    (case xs_BadCounts => k_is)
    (case xd_BadCounts => k_is)
    (case xa_BadCounts => k_is)
    (case xm_BadCounts => k_is)
    (case xt_BadCounts => k_is)
    (case xx_BadCounts => k_is)
    (case xg_BadPlugs => k_is)
    (case xk_BadPlugs => k_is)
    (case xs_BadPlugs => k_is)
    (case xd_BadPlugs => k_is)
    (case xa_BadPlugs => k_is)
    (case xm_BadPlugs => k_is)
    (case xt_BadPlugs => k_is)
    (case xx_BadPlugs => k_is)
    (case xg_BadSockets => k_is)
    (case xk_BadSockets => k_is)
    (case xs_BadSockets => k_is)
    (case xd_BadSockets => k_is)
    (case xa_BadSockets => k_is)
    (case xm_BadSockets => k_is)
    (case xt_BadSockets => k_is)
    (case xx_BadSockets => k_is)
    (case xg_StripError => k_is)
    (case xk_StripError => k_is)
    (case xs_StripError => k_is)
    (case xd_StripError => k_is)
    (case xa_StripError => k_is)
    (case xm_StripError => k_is)
    (case xt_StripError => k_is)
    (case xx_StripError => k_is)
    (case su_BadCounts_BadCounts => k_is)
    (case su_BadCounts_BadPlugs => k_is)
    (case su_BadCounts_StripError => k_is)
    (case su_BadPlugs_BadCounts => k_is)
    (case su_BadPlugs_BadPlugs => k_is)
    (case su_BadPlugs_StripError => k_is)
    (case su_BadSockets_BadCounts => k_is)
    (case su_BadSockets_BadPlugs => k_is)
    (case su_BadSockets_StripError => k_is)
    (case xf_BadPlugs_index => k_is)
    (case no_Strip_rows => k_is)
    (case z_all => k_is)
    (case z_bool => k_is)
    (case z_dict => k_is)
    (case z_enumerate => k_is)
    (case z_int => k_is)
    (case z_isinstance => k_is)
    (case z_len => k_is)
    (case z_list => k_is)
    (case z_range => k_is)
    (case z_set => k_is)
    (case z_sorted => k_is)
    (case z_tuple => k_is)
    (case z_zip => k_is)
    (case y_FAR => k_is)
    (case y_MOST_AT => k_is)
    (case y_MOST_KINDS => k_is)
    (case y_MOST_SIDE => k_is)
    (case y_MOST_SOCKETS => k_is)
