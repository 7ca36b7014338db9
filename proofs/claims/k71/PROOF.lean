import PyProof.Rows.All
import Wide.All
import OpenK.AllK
import Wide.FinOn
import HandS.ForMost
import HandS.Exc
import HandS.WordsExc
import HandS.Lambda
import HandS.Flow
import HandS.TupAny
import HandS.Deep
import HandS.Style
import HandS.TupMul
import KE.LtData
import HandS.Dict
import HandS.Text
import HandS.Comp
import HandS.Small
import HandS.Iter
import HandS.Zip
import HandS.ExcOwn
import HandS.CallLocal
import KE.SortData
import KE.KDictSum
import HandS.More
import HandS.Conv
import HandS.DictComp
import KE.KDictKeyed
import KE.KDictPairs
import PyProof.SumAny
import PyProof.ReprRoads
import PyProof.FactsAll.subtypes_4
import HandS.Ends
import HandS.RaiseMore
import HandS.IsInst
import HandS.Nested
import HandS.ExcInit
import HandS.ExcField
import HandS.TryMany
import KE.DataMinMax
import PySem.Challenge.RW_countedmaps_k71_whole_hues_and_direction
set_option Elab.async false
set_option linter.all false
set_option autoImplicit false
set_option maxRecDepth 100000
set_option maxHeartbeats 4000000
/-! The D-layer: values as trees, a small memory of what changes, and how both lie to HandS's abstract heap. -/
namespace Dl
open PySem PySem.Spec L2

/-- values: tuples and lists that nobody changes are trees; ref n: the n-th thing of the memory; fn k: the k-th def -/
inductive D where
  | non | bl (b : Bool) | int (i : Int) | str (s : Str) | ty (n : String) | fn (k : Nat) | ref (n : Nat) | lam (k : Nat)
  | tup (ds : List D) | lst (ds : List D) | scr (ns : List Int)

inductive Ob where
  | dead
  | lst (ds : List D)
  | dK (kvs : List (Key × D))
  | dT (kvs : List (List Key × D))
  | ins (c : Nat) (fs : List (Str × D))
abbrev Mem := List Ob
structure Exn where
  c : Nat
  fs : List (Str × D)
abbrev Loc := List (Option D)
inductive Rs (α : Type) where
  | ok (a : α) (M : Mem)
  | ex (x : Exn) (M : Mem)
  | no
inductive Rt where
  | nx (δ : Loc) (M : Mem)
  | rt (d : D) (M : Mem)
  | bk (δ : Loc) (M : Mem)
  | ct (δ : Loc) (M : Mem)
  | ex (x : Exn) (δ : Loc) (M : Mem)
  | no
abbrev EE := Loc → Mem → Rs D
abbrev AA := Loc → Mem → Rs (List D)
abbrev TT' := Loc → Mem → Rs Bool
abbrev SS := Loc → Mem → Rt
abbrev GG := D → Loc → Mem → Rs Loc
abbrev FF := List D → Mem → Rs D

/-- a lambda: its words -/
structure LW where
  qual : Str
  params : Arguments
  body : Expr
  scope : Scope
/-- the object at a is such a lambda with the captured cells cl, its code object at c -/
def LamO (a : Addr) (L : LW) (cl : List (Str × Addr)) (c : Addr) : HO := .ext fun h => ∃ (pm ctv : Value), h.get? a = some (PySem.W.kla_obj "<lambda>" L.qual L.params L.body L.scope cl pm c ctv)
/-- where the defs and the classes stand; the lambdas; the tables of code objects -/
structure Gm where
  fa : Nat → Option Addr
  ca : Nat → Option Addr
  la : Nat → Option LW := fun _ => none
  T : List (Addr × Str) := []

/-- a list that is locked for good -/
def FzL (H : Hp) (a : Addr) (xs : List V) : Prop := ∃ o, H a = some (.frz o (.lst xs))
theorem FzL.sq {K : PySem.W.Frag} {H : Hp} {a : Addr} {xs : List V} (h : FzL H a xs) : SqL K H a xs := .inl (.inr h)
/-- the script: locked, or of the written part -/
def ScL (K : PySem.W.Frag) (H : Hp) (a : Addr) (xs : List V) : Prop :=
  FzL H a xs ∨ ∃ (o : Obj) (its : Array Value) (n : Nat), K.lookup a = some o ∧ o.cls = .type "list" ∧ o.dict = none ∧ o.data = .seq its n ∧ its.size ≤ sizeLine ∧ Vals xs its.toList
theorem ScL.sq {K : PySem.W.Frag} {H : Hp} {a : Addr} {xs : List V} (h : ScL K H a xs) : SqL K H a xs := by
  rcases h with h | h
  · exact h.sq
  · exact .inr h

mutual
def RV (K : PySem.W.Frag) (g : Gm) (ρ : List Addr) (H : Hp) : D → V → Prop
  | .non, v => v = .non
  | .bl b, v => v = .bl b
  | .int i, v => v = .int i
  | .str s, v => v = .str s
  | .ty n, v => v = .ty n
  | .fn k, v => ∃ a, g.fa k = some a ∧ v = .ref a
  | .ref n, v => ∃ a, ρ[n]? = some a ∧ v = .ref a
  | .lam k, v => ∃ a L c, g.la k = some L ∧ v = .ref a ∧ H a = some (LamO a L [] c) ∧ H c = some (LamX.CodeO c L.qual)
  | .tup ds, v => ∃ p vs, v = .ref p ∧ H p = some (.tup vs) ∧ RVs K g ρ H ds vs
  | .lst ds, v => ∃ p vs, v = .ref p ∧ FzL H p vs ∧ RVs K g ρ H ds vs
  | .scr ns, v => ∃ p, v = .ref p ∧ ScL K H p (ns.map V.int)
def RVs (K : PySem.W.Frag) (g : Gm) (ρ : List Addr) (H : Hp) : List D → List V → Prop
  | [], vs => vs = []
  | d :: ds, vs => ∃ v r, vs = v :: r ∧ RV K g ρ H d v ∧ RVs K g ρ H ds r
end

/-- what never changes stays -/
structure Keep (H H' : Hp) : Prop where
  tup : ∀ p xs, H p = some (.tup xs) → H' p = some (.tup xs)
  frz : ∀ p o u, H p = some (.frz o u) → H' p = some (.frz o u)
  ext : ∀ p φ, H p = some (.ext φ) → H' p = some (.ext φ)
theorem Keep.refl {H : Hp} : Keep H H := ⟨fun _ _ h => h, fun _ _ _ h => h, fun _ _ h => h⟩
theorem Keep.trans {H H1 H2 : Hp} (a : Keep H H1) (b : Keep H1 H2) : Keep H H2 :=
  ⟨fun p xs h => b.tup p xs (a.tup p xs h), fun p o u h => b.frz p o u (a.frz p o u h), fun p φ h => b.ext p φ (a.ext p φ h)⟩
/-- tables stay -/
def KeepT (H H' : Hp) : Prop := ∀ p ps, H p = some (.tbl ps) → H' p = some (.tbl ps)
theorem Keep.tabs {H H' : Hp} {T : List (Addr × Str)} (k : Keep H H') (t : KeepT H H') (h : LamX.Tabs T H) : LamX.Tabs T H' := fun p hp => by
  obtain ⟨ps, h1, h2, h3⟩ := h p hp
  exact ⟨ps, t _ _ h1, h2, fun pos cv hc => let ⟨c, e1, e2⟩ := h3 pos cv hc; ⟨c, e1, k.ext _ _ e2⟩⟩
theorem Keep.sqT {K : PySem.W.Frag} {H H' : Hp} {a : Addr} {xs : List V} (k : Keep H H') (h : SqT K H a xs) : SqT K H' a xs := by
  rcases h with (h | ⟨o, h⟩) | h
  · exact .inl (.inl (k.tup _ _ h))
  · exact .inl (.inr ⟨o, k.frz _ _ _ h⟩)
  · exact .inr h
theorem Keep.fzL {H H' : Hp} {a : Addr} {xs : List V} (k : Keep H H') (h : FzL H a xs) : FzL H' a xs := by
  obtain ⟨o, h⟩ := h
  exact ⟨o, k.frz _ _ _ h⟩
theorem Keep.scL {K : PySem.W.Frag} {H H' : Hp} {a : Addr} {xs : List V} (k : Keep H H') (h : ScL K H a xs) : ScL K H' a xs := by
  rcases h with h | h
  · exact .inl (k.fzL h)
  · exact .inr h

def Pre (ρ ρ' : List Addr) : Prop := ∀ (n : Nat) (a : Addr), ρ[n]? = some a → ρ'[n]? = some a
theorem Pre.refl {ρ : List Addr} : Pre ρ ρ := fun _ _ h => h
theorem Pre.trans {ρ ρ1 ρ2 : List Addr} (a : Pre ρ ρ1) (b : Pre ρ1 ρ2) : Pre ρ ρ2 := fun n x h => b n x (a n x h)
theorem Pre.snoc {ρ : List Addr} {x : Addr} : Pre ρ (ρ ++ [x]) := fun n a h => by
  rw [List.getElem?_append_left]
  · exact h
  · exact (List.getElem?_eq_some_iff.mp h).1

mutual
theorem RV.mono {K : PySem.W.Frag} {g : Gm} {ρ ρ' : List Addr} {H H' : Hp} (k : Keep H H') (p : Pre ρ ρ') : ∀ {d : D} {v : V}, RV K g ρ H d v → RV K g ρ' H' d v
  | .non, _, h => by rw [RV] at h ⊢; exact h
  | .bl _, _, h => by rw [RV] at h ⊢; exact h
  | .int _, _, h => by rw [RV] at h ⊢; exact h
  | .str _, _, h => by rw [RV] at h ⊢; exact h
  | .ty _, _, h => by rw [RV] at h ⊢; exact h
  | .fn _, _, h => by rw [RV] at h ⊢; exact h
  | .ref _, _, h => by
    rw [RV] at h ⊢
    obtain ⟨a, e, h⟩ := h
    exact ⟨a, p _ _ e, h⟩
  | .lam _, _, h => by
    rw [RV] at h ⊢
    obtain ⟨a, L, c, e, h, h1, h2⟩ := h
    exact ⟨a, L, c, e, h, k.ext _ _ h1, k.ext _ _ h2⟩
  | .tup _, _, h => by
    rw [RV] at h ⊢
    obtain ⟨q, vs, e, s, r⟩ := h
    exact ⟨q, vs, e, k.tup _ _ s, RVs.mono k p r⟩
  | .lst _, _, h => by
    rw [RV] at h ⊢
    obtain ⟨q, vs, e, s, r⟩ := h
    exact ⟨q, vs, e, k.fzL s, RVs.mono k p r⟩
  | .scr _, _, h => by
    rw [RV] at h ⊢
    obtain ⟨q, e, s⟩ := h
    exact ⟨q, e, k.scL s⟩
theorem RVs.mono {K : PySem.W.Frag} {g : Gm} {ρ ρ' : List Addr} {H H' : Hp} (k : Keep H H') (p : Pre ρ ρ') : ∀ {ds : List D} {vs : List V}, RVs K g ρ H ds vs → RVs K g ρ' H' ds vs
  | [], _, h => by rw [RVs] at h ⊢; exact h
  | _ :: _, _, h => by
    rw [RVs] at h ⊢
    obtain ⟨v, r, e, h1, h2⟩ := h
    exact ⟨v, r, e, RV.mono k p h1, RVs.mono k p h2⟩
end

section
variable {K : PySem.W.Frag} {g : Gm} {ρ ρ' : List Addr} {H H' : Hp}
theorem rv_non {v : V} : RV K g ρ H .non v ↔ v = .non := by rw [RV]
theorem rv_bl {b : Bool} {v : V} : RV K g ρ H (.bl b) v ↔ v = .bl b := by rw [RV]
theorem rv_int {i : Int} {v : V} : RV K g ρ H (.int i) v ↔ v = .int i := by rw [RV]
theorem rv_str {s : Str} {v : V} : RV K g ρ H (.str s) v ↔ v = .str s := by rw [RV]
theorem rv_ty {s : String} {v : V} : RV K g ρ H (.ty s) v ↔ v = .ty s := by rw [RV]
theorem rv_fn {k : Nat} {v : V} : RV K g ρ H (.fn k) v ↔ ∃ a, g.fa k = some a ∧ v = .ref a := by rw [RV]
theorem rv_ref {n : Nat} {v : V} : RV K g ρ H (.ref n) v ↔ ∃ a, ρ[n]? = some a ∧ v = .ref a := by rw [RV]
theorem rv_lam {k : Nat} {v : V} : RV K g ρ H (.lam k) v ↔ ∃ a L c, g.la k = some L ∧ v = .ref a ∧ H a = some (LamO a L [] c) ∧ H c = some (LamX.CodeO c L.qual) := by rw [RV]
theorem rv_tup {ds : List D} {v : V} : RV K g ρ H (.tup ds) v ↔ ∃ p vs, v = .ref p ∧ H p = some (.tup vs) ∧ RVs K g ρ H ds vs := by rw [RV]
theorem rv_lst {ds : List D} {v : V} : RV K g ρ H (.lst ds) v ↔ ∃ p vs, v = .ref p ∧ FzL H p vs ∧ RVs K g ρ H ds vs := by rw [RV]
theorem rv_scr {ns : List Int} {v : V} : RV K g ρ H (.scr ns) v ↔ ∃ p, v = .ref p ∧ ScL K H p (ns.map V.int) := by rw [RV]
theorem rvs_nil {vs : List V} : RVs K g ρ H [] vs ↔ vs = [] := by rw [RVs]
theorem rvs_cons {d : D} {ds : List D} {vs : List V} : RVs K g ρ H (d :: ds) vs ↔ ∃ v r, vs = v :: r ∧ RV K g ρ H d v ∧ RVs K g ρ H ds r := by rw [RVs]
theorem RVs.length : ∀ {ds : List D} {vs : List V}, RVs K g ρ H ds vs → vs.length = ds.length
  | [], _, h => by rw [rvs_nil] at h; rw [h]; rfl
  | _ :: ds, _, h => by
    rw [rvs_cons] at h
    obtain ⟨v, r, e, _, h2⟩ := h
    rw [e, List.length_cons, List.length_cons, RVs.length h2]
theorem RVs.get : ∀ {ds : List D} {vs : List V} {i : Nat} {d : D}, RVs K g ρ H ds vs → ds[i]? = some d → ∃ v, vs[i]? = some v ∧ RV K g ρ H d v
  | [], _, _, _, _, e => by simp at e
  | d :: ds, _, 0, _, h, e => by
    rw [rvs_cons] at h
    obtain ⟨v, r, e', h1, _⟩ := h
    simp at e
    subst e
    exact ⟨v, by rw [e']; rfl, h1⟩
  | d :: ds, _, i + 1, x, h, e => by
    rw [rvs_cons] at h
    obtain ⟨v, r, e', _, h2⟩ := h
    obtain ⟨u, h3, h4⟩ := RVs.get (i := i) (d := x) h2 (by simpa using e)
    exact ⟨u, by rw [e']; simpa using h3, h4⟩
theorem RVs.append : ∀ {ds es : List D} {vs us : List V}, RVs K g ρ H ds vs → RVs K g ρ H es us → RVs K g ρ H (ds ++ es) (vs ++ us)
  | [], _, _, _, h, k => by rw [rvs_nil] at h; subst h; exact k
  | _ :: _, _, _, _, h, k => by
    rw [rvs_cons] at h
    obtain ⟨v, r, e', h1, h2⟩ := h
    subst e'
    show RVs K g ρ H (_ :: (_ ++ _)) (v :: (r ++ _))
    rw [rvs_cons]
    exact ⟨v, _, rfl, h1, RVs.append h2 k⟩
theorem RVs.one {d : D} {v : V} (h : RV K g ρ H d v) : RVs K g ρ H [d] [v] := by
  rw [rvs_cons]; exact ⟨v, [], rfl, h, by rw [rvs_nil]⟩
theorem RVs.take : ∀ {ds : List D} {vs : List V} (n : Nat), RVs K g ρ H ds vs → RVs K g ρ H (ds.take n) (vs.take n)
  | _, _, 0, _ => by simp [rvs_nil]
  | [], _, n + 1, h => by rw [rvs_nil] at h; subst h; simp [rvs_nil]
  | _ :: _, _, n + 1, h => by
    rw [rvs_cons] at h
    obtain ⟨v, r, e', h1, h2⟩ := h
    subst e'
    rw [List.take_succ_cons, List.take_succ_cons, rvs_cons]
    exact ⟨v, _, rfl, h1, RVs.take n h2⟩
theorem RVs.drop : ∀ {ds : List D} {vs : List V} (n : Nat), RVs K g ρ H ds vs → RVs K g ρ H (ds.drop n) (vs.drop n)
  | _, _, 0, h => h
  | [], _, n + 1, h => by rw [rvs_nil] at h; subst h; simp [rvs_nil]
  | _ :: _, _, n + 1, h => by
    rw [rvs_cons] at h
    obtain ⟨v, r, e', h1, h2⟩ := h
    subst e'
    exact RVs.drop n h2
theorem RVs.set : ∀ {ds : List D} {vs : List V} (n : Nat) {d : D} {v : V}, RVs K g ρ H ds vs → RV K g ρ H d v → RVs K g ρ H (ds.set n d) (vs.set n v)
  | [], _, _, _, _, h, _ => by rw [rvs_nil] at h; subst h; simp [rvs_nil]
  | _ :: _, _, 0, _, _, h, k => by
    rw [rvs_cons] at h
    obtain ⟨v, r, e', h1, h2⟩ := h
    subst e'
    rw [List.set_cons_zero, List.set_cons_zero, rvs_cons]
    exact ⟨_, _, rfl, k, h2⟩
  | _ :: _, _, n + 1, _, _, h, k => by
    rw [rvs_cons] at h
    obtain ⟨v, r, e', h1, h2⟩ := h
    subst e'
    rw [List.set_cons_succ, List.set_cons_succ, rvs_cons]
    exact ⟨_, _, rfl, h1, RVs.set n h2 k⟩
theorem RVs.map_int (ns : List Int) : RVs K g ρ H (ns.map D.int) (ns.map V.int) := by
  induction ns with
  | nil => rw [List.map_nil, List.map_nil, rvs_nil]
  | cons n ns ih => rw [List.map_cons, List.map_cons, rvs_cons]; exact ⟨_, _, rfl, by rw [rv_int], ih⟩
end

/-! ### the memory -/
def KVr (K : PySem.W.Frag) (g : Gm) (ρ : List Addr) (H : Hp) {κ : Type} (kvs : List (κ × D)) (kvs' : List (κ × V)) : Prop :=
  kvs.map (·.1) = kvs'.map (·.1) ∧ RVs K g ρ H (kvs.map (·.2)) (kvs'.map (·.2))
def RO (K : PySem.W.Frag) (g : Gm) (ρ : List Addr) (H : Hp) (a : Addr) : Ob → Prop
  | .dead => True
  | .lst ds => ∃ vs, H a = some (.lst vs) ∧ RVs K g ρ H ds vs
  | .dK kvs => ∃ kvs', H a = some (.dK kvs') ∧ KVr K g ρ H kvs kvs'
  | .dT kvs => ∃ kvs', H a = some (.dT kvs') ∧ KVr K g ρ H kvs kvs'
  | .ins c fs => ∃ C dx fs', g.ca c = some C ∧ H a = some (.ins C dx fs') ∧ KVr K g ρ H fs fs'
theorem RO.mono {K : PySem.W.Frag} {g : Gm} {ρ ρ' : List Addr} {H H' : Hp} {a : Addr} {o : Ob} (k : Keep H H') (p : Pre ρ ρ') (e : o ≠ .dead → H' a = H a) (h : RO K g ρ H a o) : RO K g ρ' H' a o := by
  cases o with
  | dead => trivial
  | lst ds =>
    obtain ⟨vs, h1, h2⟩ := h
    exact ⟨vs, (e (fun z => nomatch z)).trans h1, h2.mono k p⟩
  | dK kvs =>
    obtain ⟨vs, h1, h2, h3⟩ := h
    exact ⟨vs, (e (fun z => nomatch z)).trans h1, h2, h3.mono k p⟩
  | dT kvs =>
    obtain ⟨vs, h1, h2, h3⟩ := h
    exact ⟨vs, (e (fun z => nomatch z)).trans h1, h2, h3.mono k p⟩
  | ins c fs =>
    obtain ⟨C, dx, vs, h0, h1, h2, h3⟩ := h
    exact ⟨C, dx, vs, h0, (e (fun z => nomatch z)).trans h1, h2, h3.mono k p⟩
/-- live things are of kinds that may be written -/
theorem RO.some {K : PySem.W.Frag} {g : Gm} {ρ : List Addr} {H : Hp} {a : Addr} {o : Ob} (h : RO K g ρ H a o) (l : o ≠ .dead) : ∃ u, H a = some u ∧ (∀ xs, u ≠ .tup xs) ∧ (∀ ob w, u ≠ .frz ob w) ∧ (∀ x, u ≠ .own x) ∧ Mut (some u) ∧ (∀ φ, u ≠ .ext φ) ∧ (∀ ps, u ≠ .tbl ps) := by
  cases o with
  | dead => exact absurd rfl l
  | lst ds => obtain ⟨vs, h1, _⟩ := h; exact ⟨_, h1, (fun _ z => nomatch z), (fun _ _ z => nomatch z), (fun _ z => nomatch z), trivial, (fun _ z => nomatch z), (fun _ z => nomatch z)⟩
  | dK kvs => obtain ⟨vs, h1, _⟩ := h; exact ⟨_, h1, (fun _ z => nomatch z), (fun _ _ z => nomatch z), (fun _ z => nomatch z), trivial, (fun _ z => nomatch z), (fun _ z => nomatch z)⟩
  | dT kvs => obtain ⟨vs, h1, _⟩ := h; exact ⟨_, h1, (fun _ z => nomatch z), (fun _ _ z => nomatch z), (fun _ z => nomatch z), trivial, (fun _ z => nomatch z), (fun _ z => nomatch z)⟩
  | ins c fs => obtain ⟨C, dx, vs, _, h1, _⟩ := h; exact ⟨_, h1, (fun _ z => nomatch z), (fun _ _ z => nomatch z), (fun _ z => nomatch z), trivial, (fun _ z => nomatch z), (fun _ z => nomatch z)⟩

def Live (M : Mem) (n : Nat) : Prop := ∃ o, M[n]? = some o ∧ o ≠ .dead
structure MR (K : PySem.W.Frag) (g : Gm) (ρ : List Addr) (M : Mem) (H : Hp) : Prop where
  len : ρ.length = M.length
  obj : ∀ (n : Nat) (a : Addr) (o : Ob), ρ[n]? = some a → M[n]? = some o → RO K g ρ H a o
  inj : ∀ (n m : Nat) (a : Addr), ρ[n]? = some a → ρ[m]? = some a → Live M n → Live M m → n = m
  tab : LamX.Tabs g.T H
def Lv (ρ : List Addr) (M : Mem) (p : Addr) : Prop := ∃ n, ρ[n]? = some p ∧ Live M n
structure Ext (ρ : List Addr) (M : Mem) (H : Hp) (ρ' : List Addr) (M' : Mem) (H' : Hp) : Prop where
  pre : Pre ρ ρ'
  kp : Keep H H'
  frame : ∀ p o, H p = some o → ¬ Lv ρ M p → (∀ ps, o ≠ .tbl ps) → H' p = some o
  there : ∀ p, H p ≠ none → H' p ≠ none
  new : ∀ (n : Nat) (a : Addr), ρ.length ≤ n → ρ'[n]? = some a → Live M' n → H a = none
  old : ∀ (n : Nat), n < ρ.length → Live M' n → Live M n
  len : M.length ≤ M'.length
theorem Ext.refl {ρ : List Addr} {M : Mem} {H : Hp} : Ext ρ M H ρ M H where
  pre := .refl
  kp := .refl
  frame := fun _ _ h _ _ => h
  there := fun _ h => h
  new := fun n a h e _ => by rw [List.getElem?_eq_none_iff.mpr h] at e; cases e
  old := fun _ _ h => h
  len := Nat.le_refl _
theorem Ext.trans {ρ ρ1 ρ2 : List Addr} {M M1 M2 : Mem} {H H1 H2 : Hp} (a : Ext ρ M H ρ1 M1 H1) (b : Ext ρ1 M1 H1 ρ2 M2 H2) (l1 : ρ1.length = M1.length) (l0 : ρ.length = M.length) : Ext ρ M H ρ2 M2 H2 where
  pre := a.pre.trans b.pre
  kp := a.kp.trans b.kp
  frame := fun p o h nl nt => by
    refine b.frame p o (a.frame p o h nl nt) ?_ nt
    rintro ⟨n, e, lv⟩
    by_cases hn : n < ρ.length
    · have e0 := List.getElem?_eq_getElem hn
      have e1 := a.pre _ _ e0
      rw [e] at e1
      cases e1
      exact nl ⟨n, e0, a.old n hn lv⟩
    · have := a.new n p (by omega) e lv
      rw [h] at this
      cases this
  there := fun p h => b.there p (a.there p h)
  new := fun n x h e lv => by
    by_cases hn : n < ρ1.length
    · have e0 := List.getElem?_eq_getElem hn
      have e1 := b.pre _ _ e0
      rw [e] at e1
      cases e1
      exact a.new n _ h e0 (b.old n hn lv)
    · have h1 := b.new n x (by omega) e lv
      cases q : H x with
      | none => rfl
      | some u =>
        have := a.there x (by rw [q]; simp)
        exact absurd h1 this
  old := fun n h lv => a.old n h (b.old n (by have := a.len; omega) lv)
  len := Nat.le_trans a.len b.len
theorem Ext.rv {K : PySem.W.Frag} {g : Gm} {ρ ρ1 : List Addr} {M M1 : Mem} {H H1 : Hp} {d : D} {v : V} (a : Ext ρ M H ρ1 M1 H1) (r : RV K g ρ H d v) : RV K g ρ1 H1 d v := r.mono a.kp a.pre
theorem Ext.rvs {K : PySem.W.Frag} {g : Gm} {ρ ρ1 : List Addr} {M M1 : Mem} {H H1 : Hp} {d : List D} {v : List V} (a : Ext ρ M H ρ1 M1 H1) (r : RVs K g ρ H d v) : RVs K g ρ1 H1 d v := r.mono a.kp a.pre

/-- the slots -/
def SR (K : PySem.W.Frag) (g : Gm) (ρ : List Addr) (H : Hp) (δ : Loc) (σ : St) : Prop := δ.length = σ.length ∧ ∀ (i : Nat) (d : D), δ[i]? = some (some d) → ∃ v, σ[i]? = some (some v) ∧ RV K g ρ H d v
theorem SR.mono {K : PySem.W.Frag} {g : Gm} {ρ ρ' : List Addr} {H H' : Hp} {δ : Loc} {σ : St} (k : Keep H H') (p : Pre ρ ρ') (h : SR K g ρ H δ σ) : SR K g ρ' H' δ σ :=
  ⟨h.1, fun i d e => let ⟨v, h1, h2⟩ := h.2 i d e; ⟨v, h1, h2.mono k p⟩⟩
theorem Ext.sr {K : PySem.W.Frag} {g : Gm} {ρ ρ1 : List Addr} {M M1 : Mem} {H H1 : Hp} {δ : Loc} {σ : St} (a : Ext ρ M H ρ1 M1 H1) (r : SR K g ρ H δ σ) : SR K g ρ1 H1 δ σ := r.mono a.kp a.pre
theorem SR.set {K : PySem.W.Frag} {g : Gm} {ρ : List Addr} {H : Hp} {δ : Loc} {σ : St} (h : SR K g ρ H δ σ) (i : Nat) {d : D} {v : V} (r : RV K g ρ H d v) : SR K g ρ H (δ.set i (some d)) (σ.set i (some v)) := by
  refine ⟨by rw [List.length_set, List.length_set, h.1], fun j x e => ?_⟩
  by_cases hj : i = j
  · subst hj
    rw [List.getElem?_set] at e
    simp only [if_true] at e
    split at e
    · rename_i hl
      cases e
      exact ⟨v, by rw [List.getElem?_set]; simp [← h.1, hl], r⟩
    · cases e
  · rw [List.getElem?_set_ne hj] at e
    obtain ⟨v', h1, h2⟩ := h.2 j x e
    exact ⟨v', by rw [List.getElem?_set_ne hj]; exact h1, h2⟩

/-! ### what changes -/
section
variable {K : PySem.W.Frag} {g : Gm} {ρ : List Addr} {M : Mem} {H : Hp}
/-- a new thing that never changes, or is not of the memory -/
theorem ext_new {p : Addr} {o : HO} (hp : H p = none) : Ext ρ M H ρ M (upd H p o) where
  pre := .refl
  kp := ⟨fun q xs h => by rw [upd_ne (ne_of_none h hp)]; exact h, fun q ob u h => by rw [upd_ne (ne_of_none h hp)]; exact h, fun q φ h => by rw [upd_ne (ne_of_none h hp)]; exact h⟩
  frame := fun q ob h _ _ => by rw [upd_ne (ne_of_none h hp)]; exact h
  there := fun q h => by
    unfold upd
    split
    · simp
    · exact h
  new := fun n a h e _ => by rw [List.getElem?_eq_none_iff.mpr h] at e; cases e
  old := fun _ _ h => h
  len := Nat.le_refl _
theorem keepT_new {p : Addr} {o : HO} (hp : H p = none) : KeepT H (upd H p o) := fun q ps h => by rw [upd_ne (ne_of_none h hp)]; exact h
theorem MR.of_ext {H' : Hp} (m : MR K g ρ M H) (k : Keep H H') (kt : KeepT H H') (e : ∀ (n : Nat) (a : Addr), ρ[n]? = some a → Live M n → H' a = H a) : MR K g ρ M H' where
  len := m.len
  obj := fun n a o h1 h2 => (m.obj n a o h1 h2).mono k .refl fun l => e n a h1 ⟨o, h2, l⟩
  inj := m.inj
  tab := k.tabs kt m.tab
theorem MR.live_some {n : Nat} {a : Addr} (m : MR K g ρ M H) (h : ρ[n]? = some a) (l : Live M n) : ∃ u, H a = some u ∧ (∀ xs, u ≠ .tup xs) ∧ (∀ ob w, u ≠ .frz ob w) ∧ (∀ x, u ≠ .own x) ∧ Mut (some u) ∧ (∀ φ, u ≠ .ext φ) ∧ (∀ ps, u ≠ .tbl ps) := by
  obtain ⟨o, h1, h2⟩ := l
  exact (m.obj n a o h h1).some h2
theorem mr_new {p : Addr} {o : HO} (m : MR K g ρ M H) (hp : H p = none) : MR K g ρ M (upd H p o) := by
  refine m.of_ext (ext_new (ρ := ρ) (M := M) hp).kp (keepT_new hp) fun n a h l => ?_
  obtain ⟨u, e, _⟩ := m.live_some h l
  exact upd_ne (ne_of_none e hp)
/-- a new thing of the memory -/
theorem ext_live {p : Addr} {o : HO} {ob : Ob} (hl : ρ.length = M.length) (hp : H p = none) : Ext ρ M H (ρ ++ [p]) (M ++ [ob]) (upd H p o) where
  pre := .snoc
  kp := (ext_new (ρ := ρ) (M := M) hp).kp
  frame := (ext_new (ρ := ρ) (M := M) hp).frame
  there := (ext_new (ρ := ρ) (M := M) hp).there
  new := fun n a h e _ => by
    have h2 : n = ρ.length := by
      have := (List.getElem?_eq_some_iff.mp e).1
      simp at this
      omega
    subst h2
    rw [List.getElem?_append_right (Nat.le_refl _)] at e
    simp at e
    rw [← e]
    exact hp
  old := fun n h ⟨o', e, l⟩ => by
    rw [List.getElem?_append_left (by omega)] at e
    exact ⟨o', e, l⟩
  len := by simp
theorem mr_live {p : Addr} {o : HO} {ob : Ob} (m : MR K g ρ M H) (hp : H p = none) (r : RO K g (ρ ++ [p]) (upd H p o) p ob) : MR K g (ρ ++ [p]) (M ++ [ob]) (upd H p o) := by
  have x : Ext ρ M H (ρ ++ [p]) (M ++ [ob]) (upd H p o) := ext_live m.len hp
  have old : ∀ (n : Nat) (a : Addr), n < ρ.length → (ρ ++ [p])[n]? = some a → ρ[n]? = some a := fun n a h e => by
    rw [List.getElem?_append_left h] at e; exact e
  have oldM : ∀ (n : Nat) (a : Ob), n < ρ.length → (M ++ [ob])[n]? = some a → M[n]? = some a := fun n a h e => by
    rw [List.getElem?_append_left (by rw [← m.len]; exact h)] at e; exact e
  have lst : ∀ (n : Nat) (a : Addr), ¬ n < ρ.length → (ρ ++ [p])[n]? = some a → n = ρ.length ∧ a = p := fun n a h e => by
    have h2 : n = ρ.length := by
      have := (List.getElem?_eq_some_iff.mp e).1
      simp at this
      omega
    subst h2
    rw [List.getElem?_append_right (Nat.le_refl _)] at e
    simp at e
    exact ⟨rfl, e.symm⟩
  refine ⟨by simp [m.len], fun n a u h1 h2 => ?_, fun n k a h1 h2 l1 l2 => ?_, x.kp.tabs (keepT_new hp) m.tab⟩
  · by_cases hn : n < ρ.length
    · have e1 := old n a hn h1
      have e2 := oldM n u hn h2
      refine (m.obj n a u e1 e2).mono x.kp x.pre fun l => ?_
      obtain ⟨w, e, _⟩ := m.live_some e1 ⟨u, e2, l⟩
      exact upd_ne (ne_of_none e hp)
    · obtain ⟨rfl, rfl⟩ := lst n a hn h1
      rw [List.getElem?_append_right (by rw [m.len]; exact Nat.le_refl _)] at h2
      simp [m.len] at h2
      subst h2
      exact r
  · have lo : ∀ (n : Nat), n < ρ.length → Live (M ++ [ob]) n → Live M n := fun n h ⟨o', e, l⟩ => ⟨o', oldM n _ h e, l⟩
    by_cases hn : n < ρ.length
    · by_cases hk : k < ρ.length
      · exact m.inj n k a (old n a hn h1) (old k a hk h2) (lo n hn l1) (lo k hk l2)
      · obtain ⟨rfl, rfl⟩ := lst k a hk h2
        obtain ⟨w, e, _⟩ := m.live_some (old n _ hn h1) (lo n hn l1)
        rw [hp] at e
        cases e
    · obtain ⟨rfl, rfl⟩ := lst n a hn h1
      by_cases hk : k < ρ.length
      · obtain ⟨w, e, _⟩ := m.live_some (old k _ hk h2) (lo k hk l2)
        rw [hp] at e
        cases e
      · exact (lst k a hk h2).1.symm
/-- a thing of the memory is written (o: not a tuple, not locked, or locked for good where the thing is dead from now on) -/
theorem ext_write {n : Nat} {a : Addr} {o : HO} {ob : Ob} (m : MR K g ρ M H) (h : ρ[n]? = some a) (l : Live M n) : Ext ρ M H ρ (M.set n ob) (upd H a o) where
  pre := .refl
  kp := by
    obtain ⟨u, e, n1, n2, _, _, n3, _⟩ := m.live_some h l
    refine ⟨fun q xs e1 => ?_, fun q ob' w e1 => ?_, fun q φ e1 => ?_⟩
    · rw [upd_ne]
      · exact e1
      · rintro rfl
        rw [e] at e1
        cases e1
        exact n1 _ rfl
    · rw [upd_ne]
      · exact e1
      · rintro rfl
        rw [e] at e1
        cases e1
        exact n2 _ _ rfl
    · rw [upd_ne]
      · exact e1
      · rintro rfl
        rw [e] at e1
        cases e1
        exact n3 _ rfl
  frame := fun q ob' e1 nl _ => by
    rw [upd_ne]
    · exact e1
    · rintro rfl
      exact nl ⟨n, h, l⟩
  there := fun q e1 => by
    unfold upd
    split
    · simp
    · exact e1
  new := fun k x h1 e _ => by rw [List.getElem?_eq_none_iff.mpr h1] at e; cases e
  old := fun k h1 ⟨o', e, l'⟩ => by
    by_cases hk : n = k
    · subst hk; exact l
    · rw [List.getElem?_set_ne hk] at e
      exact ⟨o', e, l'⟩
  len := by simp
theorem keepT_write {n : Nat} {a : Addr} {o : HO} (m : MR K g ρ M H) (h : ρ[n]? = some a) (l : Live M n) : KeepT H (upd H a o) := fun q ps e1 => by
  obtain ⟨u, e, _, _, _, _, _, n4⟩ := m.live_some h l
  rw [upd_ne]
  · exact e1
  · rintro rfl
    rw [e] at e1
    cases e1
    exact n4 _ rfl
theorem mr_write {n : Nat} {a : Addr} {o : HO} {ob : Ob} (m : MR K g ρ M H) (h : ρ[n]? = some a) (l : Live M n) (r : RO K g ρ (upd H a o) a ob) : MR K g ρ (M.set n ob) (upd H a o) := by
  have x : Ext ρ M H ρ (M.set n ob) (upd H a o) := ext_write m h l
  refine ⟨by simp [m.len], fun k b u h1 h2 => ?_, fun k j b h1 h2 l1 l2 => m.inj k j b h1 h2 (x.old k (List.getElem?_eq_some_iff.mp h1).1 l1) (x.old j (List.getElem?_eq_some_iff.mp h2).1 l2), x.kp.tabs (keepT_write m h l) m.tab⟩
  by_cases hk : n = k
  · subst hk
    rw [h] at h1
    cases h1
    rw [List.getElem?_set] at h2
    simp only [if_true] at h2
    split at h2
    · cases h2; exact r
    · cases h2
  · rw [List.getElem?_set_ne hk] at h2
    refine (m.obj k b u h1 h2).mono x.kp x.pre fun lu => upd_ne ?_
    rintro rfl
    exact hk (m.inj n k b h h1 l ⟨u, h2, lu⟩)
end

/-! ### readings -/
def RX (K : PySem.W.Frag) (g : Gm) (ρ : List Addr) (H : Hp) (x : Exn) (cls : Value) (dx : Option Addr) : Prop :=
  ∃ C, g.ca x.c = some C ∧ cls = .ref C ∧ ((x.fs = [] ∧ dx = none) ∨ ∃ d fs', dx = some d ∧ H d = some (.xd fs') ∧ KVr K g ρ H x.fs fs')
def rOk {α β : Type} (K : PySem.W.Frag) (g : Gm) (R : List Addr → Hp → α → β → Prop) (W : WX) (ρ : List Addr) (M : Mem) (σ : St) (H : Hp) (r : Rs α) (Q : β → Hp → Prop) : Prop :=
  match r with
  | .ok d M' => ∀ ρ' v H', Ext ρ M H ρ' M' H' → MR K g ρ' M' H' → R ρ' H' d v → Q v H'
  | .ex x M' => ∀ ρ' cls dx H', Ext ρ M H ρ' M' H' → MR K g ρ' M' H' → RX K g ρ' H' x cls dx → W cls dx σ H'
  | .no => False
def tD {α β : Type} (K : PySem.W.Frag) (g : Gm) (R : List Addr → Hp → α → β → Prop) (W : WX) (m : Loc → Mem → Rs α) : St → Hp → (β → Hp → Prop) → Prop :=
  fun σ H Q => ∃ ρ δ M, MR K g ρ M H ∧ SR K g ρ H δ σ ∧ rOk K g R W ρ M σ H (m δ M) Q
abbrev tE (K : PySem.W.Frag) (g : Gm) (W : WX) (m : EE) : TE := tD K g (RV K g) W m
abbrev tA (K : PySem.W.Frag) (g : Gm) (W : WX) (m : AA) : TA := tD K g (RVs K g) W m
abbrev tT (K : PySem.W.Frag) (g : Gm) (W : WX) (m : TT') : TT := tD K g (fun _ _ (a b : Bool) => b = a) W m
def sOk (K : PySem.W.Frag) (g : Gm) (W : WX) (ρ : List Addr) (M : Mem) (H : Hp) (r : Rt) (D : Ends) : Prop :=
  match r with
  | .nx δ M' => ∀ ρ' σ' H', Ext ρ M H ρ' M' H' → MR K g ρ' M' H' → SR K g ρ' H' δ σ' → D.nx σ' H'
  | .bk δ M' => ∀ ρ' σ' H', Ext ρ M H ρ' M' H' → MR K g ρ' M' H' → SR K g ρ' H' δ σ' → D.bk σ' H'
  | .ct δ M' => ∀ ρ' σ' H', Ext ρ M H ρ' M' H' → MR K g ρ' M' H' → SR K g ρ' H' δ σ' → D.ct σ' H'
  | .rt d M' => ∀ ρ' v H', Ext ρ M H ρ' M' H' → MR K g ρ' M' H' → RV K g ρ' H' d v → D.rt v H'
  | .ex x δ M' => ∀ ρ' cls dx σ' H', Ext ρ M H ρ' M' H' → MR K g ρ' M' H' → SR K g ρ' H' δ σ' → RX K g ρ' H' x cls dx → W cls dx σ' H'
  | .no => False
def tS (K : PySem.W.Frag) (g : Gm) (W : WX) (m : SS) : TS := fun D σ H => ∃ ρ δ M, MR K g ρ M H ∧ SR K g ρ H δ σ ∧ sOk K g W ρ M H (m δ M) D

structure DE (X : Cx) (g : Gm) (W : WX) (e : Expr) (m : EE) : Prop where
  pe : PE X e (tE X.K g W m)
structure DT (X : Cx) (g : Gm) (W : WX) (e : Expr) (m : TT') : Prop where
  pt : PT X e (tT X.K g W m)
structure DA (X : Cx) (g : Gm) (W : WX) (es : List Expr) (m : AA) : Prop where
  pa : PA X es (tA X.K g W m)
structure DS (X : Cx) (g : Gm) (W : WX) (s : Stmt) (m : SS) : Prop where
  ps : PS X s (tS X.K g W m)
structure DSs (X : Cx) (g : Gm) (W : WX) (s : List Stmt) (m : SS) : Prop where
  pss : PSs X s (tS X.K g W m)
end Dl

set_option Elab.async false
set_option linter.all false
set_option autoImplicit false
set_option maxRecDepth 100000
set_option maxHeartbeats 4000000
/-! The D-layer: names, constants, operators, tests, displays. -/
namespace Dl
noncomputable section
open PySem PySem.Spec L2

def Rs.bind {α β : Type} (r : Rs α) (f : α → Mem → Rs β) : Rs β := match r with
  | .ok a M => f a M
  | .ex x M => .ex x M
  | .no => .no
@[simp] theorem Rs.bind_ok {α β : Type} (a : α) (M : Mem) (f : α → Mem → Rs β) : (Rs.ok a M).bind f = f a M := rfl
@[simp] theorem Rs.bind_ex {α β : Type} (x : Exn) (M : Mem) (f : α → Mem → Rs β) : (Rs.ex x M : Rs α).bind f = .ex x M := rfl
@[simp] theorem Rs.bind_no {α β : Type} (f : α → Mem → Rs β) : (Rs.no : Rs α).bind f = .no := rfl
/-- an answer without change, or none -/
def ofO {α : Type} (o : Option α) (M : Mem) : Rs α := match o with
  | some a => .ok a M
  | none => .no
@[simp] theorem ofO_some {α : Type} (a : α) (M : Mem) : ofO (some a) M = .ok a M := rfl
@[simp] theorem ofO_none {α : Type} (M : Mem) : ofO (none : Option α) M = .no := rfl

section
variable {X : Cx} {g : Gm} {W : WX} {K : PySem.W.Frag} {σ : L2.St} {H : Hp} {ρ ρ' : List Addr} {M M' : Mem} {H' : Hp}

theorem PE.imp {e : Expr} {t t' : TE} (h : PE X e t) (i : ∀ σ H Q, t' σ H Q → t σ H Q) : PE X e t' := ⟨fun pins s σ H Q I q => h.run pins s σ H Q I (i σ H Q q)⟩
theorem PT.imp {e : Expr} {t t' : TT} (h : PT X e t) (i : ∀ σ H Q, t' σ H Q → t σ H Q) : PT X e t' := ⟨fun pins s σ H Q I q => h.run pins s σ H Q I (i σ H Q q)⟩
theorem PA.imp {e : List Expr} {t t' : TA} (h : PA X e t) (i : ∀ σ H Q, t' σ H Q → t σ H Q) : PA X e t' := ⟨fun pos pins s σ H Q I q => h.run pos pins s σ H Q I (i σ H Q q)⟩
theorem PS.imp {e : Stmt} {t t' : TS} (h : PS X e t) (i : ∀ D σ H, t' D σ H → t D σ H) : PS X e t' := ⟨fun pins s σ H D I q => h.run pins s σ H D I (i D σ H q)⟩
theorem PSs.imp {e : List Stmt} {t t' : TS} (h : PSs X e t) (i : ∀ D σ H, t' D σ H → t D σ H) : PSs X e t' := ⟨fun pins s σ H D I q => h.run pins s σ H D I (i D σ H q)⟩

/-- from a later state on -/
theorem rOk.at {α β : Type} {R : List Addr → Hp → α → β → Prop} {r : Rs α} {Q : β → Hp → Prop} (h : rOk K g R W ρ M σ H r Q) (e : Ext ρ M H ρ' M' H') (l : ρ.length = M.length) (l' : ρ'.length = M'.length) : rOk K g R W ρ' M' σ H' r Q := by
  cases r with
  | ok d M2 => exact fun ρ2 v H2 x m r => h ρ2 v H2 (e.trans x l' l) m r
  | ex x M2 => exact fun ρ2 c dx H2 x m r => h ρ2 c dx H2 (e.trans x l' l) m r
  | no => exact h
/-- an answer at once -/
theorem rOk.now {α β : Type} {R : List Addr → Hp → α → β → Prop} {d : α} {v : β} {Q : β → Hp → Prop} (h : rOk K g R W ρ M σ H (.ok d M) Q) (m : MR K g ρ M H) (r : R ρ H d v) : Q v H := h ρ v H .refl m r

/-- what is wanted of an answer that is no error -/
def pOk {α β : Type} (K : PySem.W.Frag) (g : Gm) (R : List Addr → Hp → α → β → Prop) (ρ : List Addr) (M : Mem) (H : Hp) (r : Rs α) (Q : β → Hp → Prop) : Prop := match r with
  | .ok d M' => ∀ ρ' v H', Ext ρ M H ρ' M' H' → MR K g ρ' M' H' → R ρ' H' d v → Q v H'
  | .ex _ _ => False
  | .no => False
theorem rOk.plain {α β : Type} {R : List Addr → Hp → α → β → Prop} {r : Rs α} {Q : β → Hp → Prop} (h : rOk K g R W ρ M σ H r Q) (hn : ∀ e M', r ≠ .ex e M') : pOk K g R ρ M H r Q := by
  cases r with
  | ok d M' => exact h
  | ex e M' => exact absurd rfl (hn e M')
  | no => exact h
theorem pOk.now {α β : Type} {R : List Addr → Hp → α → β → Prop} {d : α} {v : β} {Q : β → Hp → Prop} (h : pOk K g R ρ M H (.ok d M) Q) (m : MR K g ρ M H) (r : R ρ H d v) : Q v H := h ρ v H .refl m r
theorem pOk.ofO {α β : Type} {R : List Addr → Hp → α → β → Prop} {o : Option α} {Q : β → Hp → Prop} (h : pOk K g R ρ M H (ofO o M) Q) : ∃ d, o = some d ∧ pOk K g R ρ M H (.ok d M) Q := by
  cases o with
  | none => exact h.elim
  | some d => exact ⟨d, rfl, h⟩

/-- one after the other -/
theorem tD_bind {α β γ ε : Type} {R1 : List Addr → Hp → α → β → Prop} {R2 : List Addr → Hp → γ → ε → Prop} {m : Loc → Mem → Rs α} {f : α → Loc → Mem → Rs γ} {Q : ε → Hp → Prop}
    (h : tD K g R2 W (fun δ M => (m δ M).bind fun a M' => f a δ M') σ H Q) :
    tD K g R1 W m σ H fun v H1 => ∃ ρ δ M a, MR K g ρ M H1 ∧ SR K g ρ H1 δ σ ∧ R1 ρ H1 a v ∧ rOk K g R2 W ρ M σ H1 (f a δ M) Q := by
  obtain ⟨ρ, δ, M, mr, sr, h⟩ := h
  refine ⟨ρ, δ, M, mr, sr, ?_⟩
  cases e : m δ M with
  | ok a M' =>
    simp only [e, Rs.bind_ok] at h
    exact fun ρ' v H' x mr' r => ⟨ρ', δ, M', a, mr', x.sr sr, r, h.at x mr.len mr'.len⟩
  | ex x M' =>
    simp only [e, Rs.bind_ex] at h
    exact h
  | no =>
    simp only [e, Rs.bind_no] at h
    exact h
/-- the second of two, behind the first -/
theorem tD_then {α β γ ε : Type} {R1 : List Addr → Hp → α → β → Prop} {R2 : List Addr → Hp → γ → ε → Prop} {m : Loc → Mem → Rs α} {f : α → Loc → Mem → Rs γ} {Q : ε → Hp → Prop} {δ : Loc}
    (mr : MR K g ρ M H) (sr : SR K g ρ H δ σ) (h : rOk K g R2 W ρ M σ H ((m δ M).bind fun a M' => f a δ M') Q) :
    tD K g R1 W m σ H fun v H1 => ∃ ρ1 M1 a, Ext ρ M H ρ1 M1 H1 ∧ MR K g ρ1 M1 H1 ∧ SR K g ρ1 H1 δ σ ∧ R1 ρ1 H1 a v ∧ rOk K g R2 W ρ1 M1 σ H1 (f a δ M1) Q := by
  refine ⟨ρ, δ, M, mr, sr, ?_⟩
  cases e : m δ M with
  | ok a M' =>
    simp only [e, Rs.bind_ok] at h
    exact fun ρ' v H' x mr' r => ⟨ρ', M', a, x, mr', x.sr sr, r, h.at x mr.len mr'.len⟩
  | ex x M' =>
    simp only [e, Rs.bind_ex] at h
    exact h
  | no =>
    simp only [e, Rs.bind_no] at h
    exact h

/-! ### names and constants -/
def eVar (i : Nat) : EE := fun δ M => match δ[i]? with
  | some (some d) => .ok d M
  | _ => .no
theorem de_var (i : Nat) {x : Str} {pos : Pos} (hN : X.N[i]? = some x := by rfl) (hv : Vis X.env.scope x := by first | exact Or.inl rfl | exact Or.inr (Or.inl rfl) | exact Or.inr (Or.inr rfl)) (hd : (x == ("__debug__" : Str)) = false := by decide)
    (hcd : (x == ("__classdict__" : Str)) = false := by decide) : DE X g W (.Name x pos) (eVar i) := by
  refine ⟨PE.imp (pe_var hN hv hd hcd) fun σ H Q h => ?_⟩
  obtain ⟨ρ, δ, M, mr, sr, h⟩ := h
  unfold eVar at h
  split at h
  · rename_i d e
    obtain ⟨v, e1, r⟩ := sr.2 i d e
    exact ⟨v, e1, h.now mr r⟩
  · exact h.elim
def eC (d : D) : EE := fun _ M => .ok d M
theorem de_c {e : Expr} {v : V} {d : D} (h : PE X e (tC v)) (r : ∀ ρ H, RV X.K g ρ H d v) : DE X g W e (eC d) :=
  ⟨PE.imp h fun _ _ _ ⟨_, _, _, mr, _, h⟩ => h.now mr (r _ _)⟩
theorem de_int {i : Int} {j : Nat} {pos : Pos} : DE X g W (.Constant (.int i) j pos) (eC (.int i)) := de_c pe_int fun _ _ => by rw [rv_int]
theorem de_bl {b : Bool} {j : Nat} {pos : Pos} : DE X g W (.Constant (.bool b) j pos) (eC (.bl b)) := de_c pe_bl fun _ _ => by rw [rv_bl]
theorem de_non {j : Nat} {pos : Pos} : DE X g W (.Constant .none j pos) (eC .non) := de_c pe_non fun _ _ => by rw [rv_non]
theorem de_str {x : Str} {j : Nat} {pos : Pos} : DE X g W (.Constant (.str x) j pos) (eC (.str x)) := de_c pe_str fun _ _ => by rw [rv_str]
/-- a def as a value -/
theorem de_fn {k : Nat} {x : Str} {f : Addr} {pos : Pos} (hf : g.fa k = some f) (hg : Gl X x) (hm : X.mg x = some (.ref f)) (hd : (x == ("__debug__" : Str)) = false := by decide) : DE X g W (.Name x pos) (eC (.fn k)) :=
  de_c (pe_glob (v := .ref f) hg hm rfl hd) fun _ _ => by rw [rv_fn]; exact ⟨f, hf, rfl⟩

/-! ### two-place operations by values -/
abbrev O2 := D → D → Mem → Rs D
def rB (K : PySem.W.Frag) (g : Gm) (op : O2) : R2 := fun x' y' H Q => ∃ ρ M x y, MR K g ρ M H ∧ RV K g ρ H x x' ∧ RV K g ρ H y y' ∧ pOk K g (RV K g) ρ M H (op x y M) Q
/-- f does what op says -/
def DOp (X : Cx) (g : Gm) (f : Value → Value → Sem Value) (op : O2) : Prop := OpR X f (rB X.K g op)
/-- an operation never raises -/
def NoEx (op : O2) : Prop := ∀ x y M e M', op x y M ≠ .ex e M'
theorem rB_of {op : O2} {x y : D} {x' y' : V} {Q : VK} (hn : NoEx op) (mr : MR K g ρ M H) (r1 : RV K g ρ H x x') (r2 : RV K g ρ H y y') (h : rOk K g (RV K g) W ρ M σ H (op x y M) Q) : rB K g op x' y' H Q := by
  exact ⟨ρ, M, x, y, mr, r1, r2, h.plain (hn x y M)⟩
def e2 (op : O2) (a b : EE) : EE := fun δ M => (a δ M).bind fun x M1 => (b δ M1).bind fun y M2 => op x y M2
variable {a b : Expr} {ma mb : EE} {pos : Pos}
theorem e2_read {op : O2} (hn : NoEx op) {Q : VK} (h : tE X.K g W (e2 op ma mb) σ H Q) :
    tE X.K g W ma σ H fun x H1 => tE X.K g W mb σ H1 fun y H2 => rB X.K g op x y H2 Q := by
  have h1 := tD_bind (R1 := RV X.K g) h
  obtain ⟨ρ, δ, M, mr, sr, h1⟩ := h1
  refine ⟨ρ, δ, M, mr, sr, ?_⟩
  cases e : ma δ M with
  | ok x M1 =>
    simp only [e] at h1
    intro ρ' v H' ext mr' rv
    obtain ⟨ρ1, δ1, M1', x1, m1, s1, r1, h2⟩ := h1 ρ' v H' ext mr' rv
    have h3 := tD_then (R1 := RV X.K g) (δ := δ1) (m := mb) (f := fun y _ M2 => op x1 y M2) m1 s1 h2
    obtain ⟨ρ2, δ2, M2, m2, s2, h3⟩ := h3
    refine ⟨ρ2, δ2, M2, m2, s2, ?_⟩
    cases e' : mb δ2 M2 with
    | ok y M3 =>
      simp only [e'] at h3
      intro ρ3 u H3 ext3 m3 r3
      obtain ⟨ρ4, M4, y4, ext4, m4, s4, r4, h4⟩ := h3 ρ3 u H3 ext3 m3 r3
      exact rB_of hn m4 (ext4.rv r1) r4 h4
    | ex z M3 => simp only [e'] at h3; exact h3
    | no => simp only [e'] at h3; exact h3
  | ex z M1 => simp only [e] at h1; exact h1
  | no => simp only [e] at h1; exact h1
theorem de_bin {op : Operator} {o : O2} (ho : DOp X g (binaryOp op) o) (hn : NoEx o) (ha : DE X g W a ma) (hb : DE X g W b mb) : DE X g W (.BinOp a op b pos) (e2 o ma mb) :=
  ⟨PE.imp (pe_op ho ha.pe hb.pe) fun _ _ _ h => e2_read hn h⟩
theorem de_cmp {op : CmpOp} {o : O2} (ho : DOp X g (compareOp op) o) (hn : NoEx o) (ha : DE X g W a ma) (hb : DE X g W b mb) (hm : behindInMarks op b = false := by first | exact nomark _ | rfl) : DE X g W (.Compare a [op] [b] pos) (e2 o ma mb) :=
  ⟨PE.imp (pe_cmpR ho ha.pe hb.pe hm) fun _ _ _ h => e2_read hn h⟩
end

/-! ### sequences -/
/-- the items of a list (not the script) -/
def getL (M : Mem) : D → Option (List D)
  | .lst ds => some ds
  | .ref n => match M[n]? with
    | some (.lst ds) => some ds
    | _ => none
  | _ => none
/-- .. of a list, the script among them -/
def getS (M : Mem) : D → Option (List D)
  | .scr ns => some (ns.map D.int)
  | d => getL M d
/-- .. or of a tuple -/
def getQ (M : Mem) : D → Option (List D)
  | .tup ds => some ds
  | d => getS M d
/-- a test that nothing evaluates -/
def cdec (p : Prop) : Bool := @decide p (Classical.propDecidable p)
@[simp] theorem cdec_iff {p : Prop} : cdec p = true ↔ p := by
  unfold cdec
  exact @decide_eq_true_iff p (Classical.propDecidable p)
def sz (n : Nat) : Bool := cdec (n ≤ sizeLine)
/-- a new list: frozen, or of the memory -/
def mkL (fz : Bool) (ds : List D) (M : Mem) : Rs D := if sz ds.length then (if fz then .ok (.lst ds) M else .ok (.ref M.length) (M ++ [.lst ds])) else .no
section
variable {X : Cx} {g : Gm} {W : WX} {K : PySem.W.Frag} {σ : L2.St} {H : Hp} {ρ ρ' : List Addr} {M M' : Mem} {H' : Hp}
theorem getL_ok {d : D} {ds : List D} {v : V} (m : MR K g ρ M H) (h : getL M d = some ds) (r : RV K g ρ H d v) : ∃ p vs, v = .ref p ∧ Rd H p (.lst vs) ∧ RVs K g ρ H ds vs := by
  cases d with
  | lst xs =>
    simp only [getL, Option.some.injEq] at h
    subst h
    rw [rv_lst] at r
    obtain ⟨p, vs, e, h1, h2⟩ := r
    exact ⟨p, vs, e, .inr h1, h2⟩
  | ref n =>
    simp only [getL] at h
    split at h
    · rename_i xs e
      cases h
      rw [rv_ref] at r
      obtain ⟨p, e1, e2⟩ := r
      obtain ⟨vs, h1, h2⟩ := m.obj n p _ e1 e
      exact ⟨p, vs, e2, .inl h1, h2⟩
    · cases h
  | _ => simp [getL] at h
theorem getS_ok {d : D} {ds : List D} {v : V} (m : MR K g ρ M H) (h : getS M d = some ds) (r : RV K g ρ H d v) : ∃ p vs, v = .ref p ∧ SqL K H p vs ∧ RVs K g ρ H ds vs := by
  cases d with
  | scr ns =>
    simp only [getS, Option.some.injEq] at h
    subst h
    rw [rv_scr] at r
    obtain ⟨p, e, h1⟩ := r
    exact ⟨p, _, e, h1.sq, .map_int ns⟩
  | _ =>
    obtain ⟨p, vs, e, h1, h2⟩ := getL_ok m (by simpa [getS] using h) r
    exact ⟨p, vs, e, .inl h1, h2⟩
theorem getQ_ok {d : D} {ds : List D} {v : V} (m : MR K g ρ M H) (h : getQ M d = some ds) (r : RV K g ρ H d v) : ∃ p vs, v = .ref p ∧ (SqL K H p vs ∨ SqT K H p vs) ∧ RVs K g ρ H ds vs := by
  cases d with
  | tup xs =>
    simp only [getQ, Option.some.injEq] at h
    subst h
    rw [rv_tup] at r
    obtain ⟨p, vs, e, h1, h2⟩ := r
    exact ⟨p, vs, e, .inr (SqT.of h1), h2⟩
  | _ =>
    obtain ⟨p, vs, e, h1, h2⟩ := getS_ok m (by simpa [getQ] using h) r
    exact ⟨p, vs, e, .inl h1, h2⟩

/-- where a new list is wished for, it may be locked for good -/
def qFz (Q : VK) : VK := fun v H => Q v H ∨ ∃ p vs, v = .ref p ∧ H p = some (.lst vs) ∧ ∀ o, Q v (upd H p (.frz o (.lst vs)))
theorem ep_fz {pins : List (Addr × Obj)} {Q : VK} {u : Value} {s : Shared} (h : EP X pins σ (qFz Q) u s) : EP X pins σ Q u s := by
  obtain ⟨v, H', I, r, q⟩ := h
  rcases q with q | ⟨p, vs, e, hp, q⟩
  · exact ⟨v, H', I, r, q⟩
  · obtain ⟨od, I2⟩ := I.lock hp trivial
    exact ⟨v, _, I2, r, q od⟩
theorem opR_fz {f : Value → Value → Sem Value} {r : R2} (h : OpR X f r) : OpR X f (fun x y H Q => r x y H (qFz Q)) := fun pins s σ H x y v u Q I rx ry q =>
  thn (h pins s σ H x y v u (qFz Q) I rx ry q) fun _ _ z => ep_fz z
theorem callR_fz {f : Value} {r : List V → Hp → VK → Prop} (h : CallR X f r) : CallR X f (fun xs H Q => r xs H (qFz Q)) := fun pins s σ H xs us Q I rx q =>
  thn (h pins s σ H xs us (qFz Q) I rx q) fun _ _ z => ep_fz z
theorem PE.fz {e : Expr} {t : TE} (h : PE X e t) : PE X e (fun σ H Q => t σ H (qFz Q)) := ⟨fun pins s σ H Q I q => thn (h.run pins s σ H (qFz Q) I q) fun _ _ z => ep_fz z⟩
theorem ext_frz {p : Addr} {vs : List V} {o : Obj} (hp : H p = none) : Ext ρ M H ρ M (upd (upd H p (.lst vs)) p (.frz o (.lst vs))) := by
  rw [upd_upd]; exact ext_new hp
/-- a new list -/
theorem mkL_ok {fz : Bool} {ds : List D} {vs : List V} {p : Addr} {Q : VK} (m : MR K g ρ M H) (hp : H p = none) (r : RVs K g ρ H ds vs)
    (h : pOk K g (RV K g) ρ M H (mkL fz ds M) Q) : qFz Q (.ref p) (upd H p (.lst vs)) := by
  unfold mkL at h
  by_cases hz : sz ds.length = true
  · rw [if_pos hz] at h
    cases fz with
    | true =>
      rw [if_pos rfl] at h
      refine .inr ⟨p, vs, rfl, upd_same, fun o => ?_⟩
      have e : Ext ρ M H ρ M (upd (upd H p (.lst vs)) p (.frz o (.lst vs))) := ext_frz hp
      refine h ρ _ _ e (by rw [upd_upd]; exact mr_new m hp) ?_
      rw [rv_lst]
      exact ⟨p, vs, rfl, ⟨o, upd_same⟩, e.rvs r⟩
    | false =>
      rw [if_neg Bool.false_ne_true] at h
      refine .inl ?_
      have e : Ext ρ M H (ρ ++ [p]) (M ++ [.lst ds]) (upd H p (.lst vs)) := ext_live m.len hp
      refine h _ _ _ e (mr_live m hp ⟨vs, upd_same, e.rvs r⟩) ?_
      rw [rv_ref]
      refine ⟨p, ?_, rfl⟩
      rw [← m.len, List.getElem?_append_right (Nat.le_refl _)]
      simp
  · rw [if_neg hz] at h
    exact h.elim
theorem mkL_sz {fz : Bool} {ds : List D} {vs : List V} {Q : VK} (r : RVs K g ρ H ds vs) (h : pOk K g (RV K g) ρ M H (mkL fz ds M) Q) : vs.length ≤ sizeLine := by
  unfold mkL at h
  by_cases hz : sz ds.length = true
  · rw [r.length]; simpa [sz] using hz
  · rw [if_neg hz] at h
    exact h.elim
/-- a new tuple -/
theorem tup_ok {ds : List D} {vs : List V} {p : Addr} {Q : VK} (m : MR K g ρ M H) (hp : H p = none) (r : RVs K g ρ H ds vs)
    (h : ∀ ρ' v H', Ext ρ M H ρ' M H' → MR K g ρ' M H' → RV K g ρ' H' (.tup ds) v → Q v H') : Q (.ref p) (upd H p (.tup vs)) := by
  have e : Ext ρ M H ρ M (upd H p (.tup vs)) := ext_new hp
  refine h ρ _ _ e (mr_new m hp) ?_
  rw [rv_tup]
  exact ⟨p, vs, rfl, upd_same, e.rvs r⟩

/-! ### argument lists and displays -/
def aNil : AA := fun _ M => .ok [] M
def aCons (a : EE) (r : AA) : AA := fun δ M => (a δ M).bind fun x M1 => (r δ M1).bind fun xs M2 => .ok (x :: xs) M2
theorem da_nil : DA X g W [] aNil := ⟨PA.imp pa_nil fun σ H Q ⟨ρ, δ, M, mr, sr, h⟩ => h.now mr (by rw [rvs_nil])⟩
theorem da_cons {e : Expr} {es : List Expr} {m : EE} {ms : AA} (he : DE X g W e m) (hs : DA X g W es ms) (hst : starEach (e :: es) X.env = (false, eval e X.env) :: starEach es X.env := by rfl) : DA X g W (e :: es) (aCons m ms) := by
  refine ⟨PA.imp (pa_cons he.pe hs.pa hst) fun σ H Q h => ?_⟩
  have h1 := tD_bind (R1 := RV X.K g) (R2 := RVs X.K g) h
  obtain ⟨ρ, δ, M, mr, sr, h1⟩ := h1
  refine ⟨ρ, δ, M, mr, sr, ?_⟩
  cases e' : m δ M with
  | ok x M1 =>
    simp only [e'] at h1
    intro ρ' v H' ext mr' rv
    obtain ⟨ρ1, δ1, M1', x1, m1, s1, r1, h2⟩ := h1 ρ' v H' ext mr' rv
    have h3 := tD_then (R1 := RVs X.K g) (R2 := RVs X.K g) (δ := δ1) (m := ms) (f := fun y _ M2 => .ok (x1 :: y) M2) m1 s1 h2
    obtain ⟨ρ2, δ2, M2, m2, s2, h3⟩ := h3
    refine ⟨ρ2, δ2, M2, m2, s2, ?_⟩
    cases e'' : ms δ2 M2 with
    | ok y M3 =>
      simp only [e''] at h3
      intro ρ3 u H3 ext3 m3 r3
      obtain ⟨ρ4, M4, y4, ext4, m4, s4, r4, h4⟩ := h3 ρ3 u H3 ext3 m3 r3
      exact h4.now m4 (by rw [rvs_cons]; exact ⟨_, _, rfl, ext4.rv r1, r4⟩)
    | ex z M3 => simp only [e''] at h3; exact h3
    | no => simp only [e''] at h3; exact h3
  | ex z M1 => simp only [e'] at h1; exact h1
  | no => simp only [e'] at h1; exact h1
/-- arguments, then a function of their values -/
theorem a_read {m : AA} {f : List D → Mem → Rs D} {Q : VK} (h : tE X.K g W (fun δ M => (m δ M).bind f) σ H Q) :
    tA X.K g W m σ H fun vs H1 => ∃ ρ M ds δ, MR X.K g ρ M H1 ∧ SR X.K g ρ H1 δ σ ∧ RVs X.K g ρ H1 ds vs ∧ rOk X.K g (RV X.K g) W ρ M σ H1 (f ds M) Q := by
  have h1 := tD_bind (R1 := RVs X.K g) (f := fun a _ M => f a M) h
  obtain ⟨ρ, δ, M, mr, sr, h1⟩ := h1
  refine ⟨ρ, δ, M, mr, sr, ?_⟩
  cases e : m δ M with
  | ok x M1 =>
    simp only [e] at h1
    intro ρ' v H' ext mr' rv
    obtain ⟨ρ1, δ1, M1', x1, m1, s1, r1, h2⟩ := h1 ρ' v H' ext mr' rv
    exact ⟨ρ1, M1', x1, δ1, m1, s1, r1, h2⟩
  | ex z M1 => simp only [e] at h1; exact h1
  | no => simp only [e] at h1; exact h1
def eTup (as : AA) : EE := fun δ M => (as δ M).bind fun ds M => if sz ds.length then .ok (.tup ds) M else .no
theorem de_tup {es : List Expr} {ms : AA} {k : Nat} {pos : Pos} (h : DA X g W es ms) : DE X g W (.Tuple es k pos) (eTup ms) := by
  refine ⟨PE.imp (pe_tup h.pa) fun σ H Q h => ?_⟩
  have h1 := a_read h
  obtain ⟨ρ, δ, M, mr, sr, h1⟩ := h1
  refine ⟨ρ, δ, M, mr, sr, ?_⟩
  cases e : ms δ M with
  | ok x M1 =>
    simp only [e] at h1
    intro ρ' v H' ext mr' rv
    obtain ⟨ρ1, M1', ds, δ1, m1, s1, r1, h2⟩ := h1 ρ' v H' ext mr' rv
    split at h2
    · rename_i hz
      exact ⟨by rw [r1.length]; simpa [sz] using hz, fun p hp => tup_ok m1 hp r1 fun ρ' v H' e m r => h2 ρ' v H' e m r⟩
    · exact h2.elim
  | ex z M1 => simp only [e] at h1; exact h1
  | no => simp only [e] at h1; exact h1
def eLst (fz : Bool) (as : AA) : EE := fun δ M => (as δ M).bind fun ds M => mkL fz ds M
theorem mkL_noex {fz : Bool} {ds : List D} {M : Mem} {e : Exn} {M' : Mem} : mkL fz ds M ≠ .ex e M' := by
  unfold mkL
  split
  · split <;> exact fun z => nomatch z
  · exact fun z => nomatch z
theorem de_lst {es : List Expr} {ms : AA} {fz : Bool} {pos : Pos} (h : DA X g W es ms) : DE X g W (.List es pos) (eLst fz ms) := by
  refine ⟨PE.imp (PE.fz (pe_lst h.pa)) fun σ H Q h => ?_⟩
  have h1 := a_read h
  obtain ⟨ρ, δ, M, mr, sr, h1⟩ := h1
  refine ⟨ρ, δ, M, mr, sr, ?_⟩
  cases e : ms δ M with
  | ok x M1 =>
    simp only [e] at h1
    intro ρ' v H' ext mr' rv
    obtain ⟨ρ1, M1', ds, δ1, m1, s1, r1, h2⟩ := h1 ρ' v H' ext mr' rv
    have h3 := h2.plain fun _ _ => mkL_noex
    exact ⟨mkL_sz r1 h3, fun p hp => mkL_ok m1 hp r1 h3⟩
  | ex z M1 => simp only [e] at h1; exact h1
  | no => simp only [e] at h1; exact h1
end
end
end Dl

set_option Elab.async false
set_option linter.all false
set_option autoImplicit false
set_option maxRecDepth 100000
set_option maxHeartbeats 4000000
/-! The D-layer: the operators, comparisons, tests. -/
namespace Dl
noncomputable section
open PySem PySem.Spec L2

/-! ### values as plain data -/
mutual
def toP : D → Option PyData
  | .non => some .none
  | .bl b => some (.bool b)
  | .int i => some (.int i)
  | .str s => some (.str s)
  | .tup ds => (toPs ds).map .tuple
  | .lst ds => (toPs ds).map .list
  | .scr ns => some (.list (ns.map .int))
  | .ref _ => none
  | .ty _ => none
  | .fn _ => none
  | .lam _ => none
def toPs : List D → Option (List PyData)
  | [] => some []
  | d :: ds => match toP d, toPs ds with
    | some p, some ps => some (p :: ps)
    | _, _ => none
end
/-- .. a list of the memory at the top, too -/
def toPM (M : Mem) (d : D) : Option PyData := match d with
  | .ref n => match M[n]? with
    | some (.lst ds) => (toPs ds).map .list
    | _ => none
  | d => toP d
section
variable {X : Cx} {g : Gm} {W : WX} {K : PySem.W.Frag} {σ : L2.St} {H : Hp} {ρ ρ' : List Addr} {M M' : Mem} {H' : Hp}
theorem dpAll_ints : ∀ ns : List Int, DpAll K H (ns.map V.int) (ns.map PyData.int)
  | [] => .nil
  | n :: ns => .cons (.int n) (dpAll_ints ns)
mutual
theorem dp_of : ∀ {d : D} {v : V} {p : PyData}, RV K g ρ H d v → toP d = some p → Dp K H v p
  | .non, _, _, r, e => by rw [rv_non] at r; rw [toP] at e; cases e; subst r; exact .non
  | .bl b, _, _, r, e => by rw [rv_bl] at r; rw [toP] at e; cases e; subst r; exact .bl b
  | .int b, _, _, r, e => by rw [rv_int] at r; rw [toP] at e; cases e; subst r; exact .int b
  | .str b, _, _, r, e => by rw [rv_str] at r; rw [toP] at e; cases e; subst r; exact .str b
  | .scr ns, _, _, r, e => by
    rw [rv_scr] at r
    rw [toP] at e
    cases e
    obtain ⟨p, e, s⟩ := r
    subst e
    exact .lst s.sq (dpAll_ints ns)
  | .ref _, _, _, _, e => by rw [toP] at e; cases e
  | .ty _, _, _, _, e => by rw [toP] at e; cases e
  | .fn _, _, _, _, e => by rw [toP] at e; cases e
  | .lam _, _, _, _, e => by rw [toP] at e; cases e
  | .tup ds, _, _, r, e => by
    rw [rv_tup] at r
    rw [toP] at e
    obtain ⟨p, vs, e1, s, rs⟩ := r
    subst e1
    cases q : toPs ds with
    | none => rw [q] at e; cases e
    | some ps =>
      rw [q] at e
      cases e
      exact .tup (SqT.of s) (dps_of rs q)
  | .lst ds, _, _, r, e => by
    rw [rv_lst] at r
    rw [toP] at e
    obtain ⟨p, vs, e1, s, rs⟩ := r
    subst e1
    cases q : toPs ds with
    | none => rw [q] at e; cases e
    | some ps =>
      rw [q] at e
      cases e
      exact .lst s.sq (dps_of rs q)
theorem dps_of : ∀ {ds : List D} {vs : List V} {ps : List PyData}, RVs K g ρ H ds vs → toPs ds = some ps → DpAll K H vs ps
  | [], _, _, r, e => by rw [rvs_nil] at r; rw [toPs] at e; cases e; subst r; exact .nil
  | d :: ds, _, _, r, e => by
    rw [rvs_cons] at r
    rw [toPs] at e
    obtain ⟨v, vr, e1, h1, h2⟩ := r
    subst e1
    cases q : toP d with
    | none => rw [q] at e; cases e
    | some p =>
      cases q2 : toPs ds with
      | none => rw [q, q2] at e; cases e
      | some ps =>
        rw [q, q2] at e
        cases e
        exact .cons (dp_of h1 q) (dps_of h2 q2)
end
theorem dpM_of {d : D} {v : V} {p : PyData} (m : MR K g ρ M H) (r : RV K g ρ H d v) (e : toPM M d = some p) : Dp K H v p := by
  unfold toPM at e
  split at e
  · split at e
    · rename_i n ds h
      rw [rv_ref] at r
      obtain ⟨a, e1, e2⟩ := r
      obtain ⟨vs, h1, h2⟩ := m.obj _ _ _ e1 h
      subst e2
      cases q : toPs ds with
      | none => rw [q] at e; cases e
      | some ps =>
        rw [q] at e
        cases e
        exact .lst (SqL.of h1) (dps_of h2 q)
    · cases e
  · exact dp_of r e

/-! ### + - * % // ** -/
def addD (fz : Bool) : O2 := fun x y M => match x, y with
  | .int i, .int j => .ok (.int (i + j)) M
  | .str a, .str b => if sz (a.length + b.length) then .ok (.str (a ++ b)) M else .no
  | .tup a, .tup b => if sz (a.length + b.length) then .ok (.tup (a ++ b)) M else .no
  | x, y => match getL M x, getL M y with
    | some a, some b => mkL fz (a ++ b) M
    | _, _ => .no
theorem addD_noex {fz : Bool} : NoEx (addD fz) := by
  intro x y M e M'
  unfold addD
  split
  · exact fun z => nomatch z
  · split <;> exact fun z => nomatch z
  · split <;> exact fun z => nomatch z
  · split
    · exact mkL_noex
    · exact fun z => nomatch z
theorem rd_list {pins : List (Addr × Obj)} {s : Shared} {l : Addr} {xs : List V} (I : Inv X pins σ H s) (hH : Rd H l (.lst xs)) : xs.length ≤ sizeLine ∧ ∃ (its : List Value) (n : Nat), Vals xs its ∧ xs.length = its.length ∧ s.heap.get? l = some { cls := .type "list", data := .seq its.toArray n } := by
  obtain ⟨z, its, n, r, e⟩ := hH.ok I.hok
  exact ⟨z, its, n, r, r.length, e⟩
theorem catR : OpR X (binaryOp .Add) (fun x y H Q => ∃ l b xs zs, x = .ref l ∧ y = .ref b ∧ Rd H l (.lst xs) ∧ Rd H b (.lst zs) ∧ xs.length + zs.length ≤ sizeLine ∧ ∀ p, H p = none → Q (.ref p) (upd H p (.lst (xs ++ zs)))) := by
  rintro pins s σ H x y v u Q I rx ry ⟨l, b, xs, zs, rfl, rfl, hH, hB, hz, q⟩
  cases rx
  cases ry
  obtain ⟨z, its, n, r, hl, e⟩ := rd_list I hH
  obtain ⟨z2, its2, n2, r2, hl2, e2⟩ := rd_list I hB
  refine PySem.P.add_list e e2 ?_ (by simp only [List.size_toArray]; omega)
  rw [List.append_toArray]
  exact ⟨.ref _, _, I.lnew (t' := s.toks) (r.append r2) (by simp; omega), rfl, q _ I.fresh⟩
theorem dop_add (fz : Bool) : DOp X g (binaryOp .Add) (addD fz) := by
  rintro pins s σ H x' y' v u Q I rx ry ⟨ρ, M, x, y, mr, r1, r2, h⟩
  unfold addD at h
  split at h
  · rename_i i j
    rw [rv_int] at r1 r2
    exact op_add pins s σ H x' y' v u Q I rx ry ⟨i, j, r1, r2, h.now mr (by rw [rv_int])⟩
  · rename_i a b
    rw [rv_str] at r1 r2
    by_cases hz : sz (a.length + b.length) = true
    · rw [if_pos hz] at h
      exact op_add_str pins s σ H x' y' v u Q I rx ry ⟨a, b, r1, r2, by simpa [sz] using hz, h.now mr (by rw [rv_str])⟩
    · rw [if_neg hz] at h
      exact h.elim
  · rename_i a b
    rw [rv_tup] at r1 r2
    obtain ⟨p, vs, e1, s1, q1⟩ := r1
    obtain ⟨p2, us, e2, s2, q2⟩ := r2
    by_cases hz : sz (a.length + b.length) = true
    · rw [if_pos hz] at h
      refine op_catA pins s σ H x' y' v u Q I rx ry ⟨p, p2, vs, us, e1, e2, SqT.of s1, SqT.of s2, by rw [q1.length, q2.length]; simpa [sz] using hz, fun e => ?_, fun e e' => ?_, fun _ _ p hp => ?_⟩
      · subst e
        have : a = [] := List.eq_nil_of_length_eq_zero (by have := q1.length; simpa using this.symm)
        subst this
        exact h.now mr (by rw [rv_tup]; exact ⟨p2, us, rfl, s2, q2⟩)
      · subst e'
        have : b = [] := List.eq_nil_of_length_eq_zero (by have := q2.length; simpa using this.symm)
        subst this
        rw [List.append_nil] at h
        exact h.now mr (by rw [rv_tup]; exact ⟨p, vs, rfl, s1, q1⟩)
      · exact tup_ok mr hp (q1.append q2) h
    · rw [if_neg hz] at h
      exact h.elim
  · split at h
    · rename_i a b ea eb
      obtain ⟨p, vs, e1, s1, q1⟩ := getL_ok mr ea r1
      obtain ⟨p2, us, e2, s2, q2⟩ := getL_ok mr eb r2
      have hl := mkL_sz (q1.append q2) h
      rw [List.length_append] at hl
      exact opR_fz catR pins s σ H x' y' v u Q I rx ry ⟨p, p2, vs, us, e1, e2, s1, s2, hl, fun p hp => mkL_ok mr hp (q1.append q2) h⟩
    · exact h.elim

def iOp (c : Int → Int → Bool) (f : Int → Int → D) : O2 := fun x y M => match x, y with
  | .int i, .int j => if c i j then .ok (f i j) M else .no
  | _, _ => .no
theorem iOp_noex {c : Int → Int → Bool} {f : Int → Int → D} : NoEx (iOp c f) := by
  intro x y M e M'
  unfold iOp
  split
  · split <;> exact fun z => nomatch z
  · exact fun z => nomatch z
theorem dop_int {f : Value → Value → Sem Value} {C : Int → Int → Prop} {c : Int → Int → Bool} {q : Int → Int → D} {qv : Int → Int → V} (ho : OpR X f (rI C qv)) (hc : ∀ i j, c i j = true → C i j) (hq : ∀ ρ H i j, RV X.K g ρ H (q i j) (qv i j)) : DOp X g f (iOp c q) := by
  rintro pins s σ H x' y' v u Q I rx ry ⟨ρ, M, x, y, mr, r1, r2, h⟩
  unfold iOp at h
  split at h
  · rename_i i j
    rw [rv_int] at r1 r2
    by_cases hz : c i j = true
    · rw [if_pos hz] at h
      exact ho pins s σ H x' y' v u Q I rx ry ⟨i, j, r1, r2, hc i j hz, h.now mr (hq _ _ i j)⟩
    · rw [if_neg hz] at h
      exact h.elim
  · exact h.elim
theorem rI_of {f : Value → Value → Sem Value} {qv : Int → Int → V} (ho : OpR X f (rI0 qv)) : OpR X f (rI (fun _ _ => True) qv) := fun pins s σ H x y v u Q I rx ry ⟨i, j, e1, e2, _, q⟩ =>
  ho pins s σ H x y v u Q I rx ry ⟨i, j, e1, e2, q⟩
def small (i : Int) : Bool := cdec (-(2 ^ 64) < i ∧ i < 2 ^ 64)
def subD : O2 := iOp (fun _ _ => true) fun i j => .int (i - j)
def modD : O2 := iOp (fun _ j => decide (0 < j)) fun i j => .int (i % j)
def fdivD : O2 := iOp (fun _ j => cdec (0 < j ∧ j < 1073741824)) fun i j => .int (i / j)
def powD : O2 := iOp (fun i j => cdec (0 ≤ j ∧ j ≤ 1000000 ∧ i.natAbs < 2 ^ 64)) fun i j => .int (i ^ j.toNat)
theorem dop_sub : DOp X g (binaryOp .Sub) subD := dop_int (rI_of op_sub) (fun _ _ _ => trivial) fun _ _ _ _ => by rw [rv_int]
theorem dop_mod : DOp X g (binaryOp .Mod) modD := dop_int op_mod (fun _ _ h => by simpa using h) fun _ _ _ _ => by rw [rv_int]
theorem dop_fdiv : DOp X g (binaryOp .FloorDiv) fdivD := dop_int op_fdiv (fun _ _ h => by simpa [CDiv] using h) fun _ _ _ _ => by rw [rv_int]
theorem dop_pow : DOp X g (binaryOp .Pow) powD := dop_int op_pow (fun _ _ h => by simpa [CPow] using h) fun _ _ _ _ => by rw [rv_int]
/-- a product of ints, a list some times -/
def mulD (fz : Bool) : O2 := fun x y M => match x, y with
  | .int i, .int j => if small i || small j then .ok (.int (i * j)) M else .no
  | x, .int k => match getL M x with
    | some a => if cdec (-(2 ^ 63) ≤ k ∧ k < 2 ^ 63 ∧ a.length * k.toNat ≤ sizeLine) then mkL fz (List.replicate k.toNat a).flatten M else .no
    | none => .no
  | _, _ => .no
theorem mulD_noex {fz : Bool} : NoEx (mulD fz) := by
  intro x y M e M'
  unfold mulD
  split
  · split <;> exact fun z => nomatch z
  · split
    · split
      · exact mkL_noex
      · exact fun z => nomatch z
    · exact fun z => nomatch z
  · exact fun z => nomatch z
theorem repR : OpR X (binaryOp .Mult) (fun x y H Q => ∃ l k xs, x = .ref l ∧ y = .int k ∧ Rd H l (.lst xs) ∧ -(2 ^ 63) ≤ k ∧ k < 2 ^ 63 ∧ xs.length * k.toNat ≤ sizeLine ∧
    ∀ p, H p = none → Q (.ref p) (upd H p (.lst (List.replicate k.toNat xs).flatten))) := by
  rintro pins s σ H x y v u Q I rx ry ⟨l, k, xs, rfl, rfl, hH, h1, h2, hz, q⟩
  cases rx
  obtain ⟨t, rfl⟩ := ry
  obtain ⟨z, its, n, r, hl, e⟩ := rd_list I hH
  have many : its.toArray.size * k.toNat ≤ sizeLine := by simp only [List.size_toArray, ← hl]; exact hz
  have cap : ¬ its.toArray.size * k.toNat > (2 ^ 63 - 1) / 8 := by have := sizeLine_eq; omega
  have fit : ¬ (!Builtin.List.listFitsIndex k) = true := by simp [fitsIndex_both h1 h2]
  have long : ¬ Builtin.List.listTooLong (its.toArray.size * k.toNat) = true := by rw [notLongL many]; exact Bool.false_ne_true
  refine wpAny_binaryOp_repeat_ref (T := "list") (U := "int") (by decide) ⟨_, e, rfl⟩ (fun s' => typeIs_int s' k t) noFill_list_mul F.fills_int_mul F.slot_int_rmul repeat_list F.slot_int_index.lookup ?_
  refine call_meets F.slot_int_rmul (typeIs_int s k t) F.entry_int_rmul (F.args_int_rmul_2 _ _) (int___rmul___int_list k t l its.toArray n) ⟨e, rfl, ⟨_, e, rfl⟩, ?_⟩
  refine call_meets F.slot_list_mul ⟨_, e, rfl⟩ F.entry_list_mul (F.args_list_mul_2 _ _) (AutoListH.list___mul___list_int_3 l its.toArray n k t fit cap long) ⟨e, ?_⟩
  have fl : List.foldl (fun a b => a ++ b) #[] (List.replicate (if its.toArray.isEmpty = true then 0 else k.toNat) its.toArray) = (List.replicate k.toNat its).flatten.toArray := by
    cases its with
    | nil => simp
    | cons a its => rw [if_neg (by simp)]; exact size_rep _ _
  rw [fl]
  exact ⟨.ref _, _, I.lnew (t' := s.toks) (r.rep k.toNat) (by rw [PyProof.Rows.lm_len_rep_flat, Nat.mul_comm]; exact hz), rfl, q _ I.fresh⟩
theorem RVs.rep {ds : List D} {vs : List V} (r : RVs K g ρ H ds vs) : ∀ n : Nat, RVs K g ρ H (List.replicate n ds).flatten (List.replicate n vs).flatten
  | 0 => by simp [rvs_nil]
  | n + 1 => by rw [List.replicate_succ, List.replicate_succ, List.flatten_cons, List.flatten_cons]; exact r.append (RVs.rep r n)
theorem dop_mul (fz : Bool) : DOp X g (binaryOp .Mult) (mulD fz) := by
  rintro pins s σ H x' y' v u Q I rx ry ⟨ρ, M, x, y, mr, r1, r2, h⟩
  unfold mulD at h
  split at h
  · rename_i i j
    rw [rv_int] at r1 r2
    by_cases hz : (small i || small j) = true
    · rw [if_pos hz] at h
      exact op_mul pins s σ H x' y' v u Q I rx ry ⟨i, j, r1, r2, by simpa [small, CMul] using hz, h.now mr (by rw [rv_int])⟩
    · rw [if_neg hz] at h
      exact h.elim
  · rename_i k hk
    split at h
    · rename_i a ea
      obtain ⟨p, vs, e1, s1, q1⟩ := getL_ok mr ea r1
      rw [rv_int] at r2
      by_cases hz : cdec (-(2 ^ 63) ≤ k ∧ k < 2 ^ 63 ∧ a.length * k.toNat ≤ sizeLine) = true
      · rw [if_pos hz] at h
        have hz' := cdec_iff.mp hz
        exact opR_fz repR pins s σ H x' y' v u Q I rx ry ⟨p, k, vs, e1, r2, s1, hz'.1, hz'.2.1, by rw [q1.length]; exact hz'.2.2, fun p hp => mkL_ok mr hp (q1.rep _) h⟩
      · rw [if_neg hz] at h
        exact h.elim
    · exact h.elim
  · exact h.elim

/-! ### one-place -/
def negD : D → Mem → Rs D := fun x M => match x with
  | .int i => .ok (.int (-i)) M
  | _ => .no
def e1 (op : D → Mem → Rs D) (a : EE) : EE := fun δ M => (a δ M).bind fun x M1 => op x M1
theorem e1_read {op : D → Mem → Rs D} {ma : EE} {Q : VK} (hn : ∀ x M e M', op x M ≠ .ex e M') (h : tE X.K g W (e1 op ma) σ H Q) :
    tE X.K g W ma σ H fun x' H1 => ∃ ρ M x, MR X.K g ρ M H1 ∧ RV X.K g ρ H1 x x' ∧ pOk X.K g (RV X.K g) ρ M H1 (op x M) Q := by
  have h1 := tD_bind (R1 := RV X.K g) (f := fun a _ M => op a M) h
  obtain ⟨ρ, δ, M, mr, sr, h1⟩ := h1
  refine ⟨ρ, δ, M, mr, sr, ?_⟩
  cases e : ma δ M with
  | ok x M1 =>
    simp only [e] at h1
    intro ρ' v H' ext mr' rv
    obtain ⟨ρ1, δ1, M1', x1, m1, s1, r1, h2⟩ := h1 ρ' v H' ext mr' rv
    exact ⟨ρ1, M1', x1, m1, r1, h2.plain (hn x1 M1')⟩
  | ex z M1 => simp only [e] at h1; exact h1
  | no => simp only [e] at h1; exact h1
theorem de_neg {a : Expr} {ma : EE} {pos : Pos} (ha : DE X g W a ma) : DE X g W (.UnaryOp .USub a pos) (e1 negD ma) := by
  refine ⟨PE.imp (pe_un un_neg ha.pe) fun σ H Q h => ?_⟩
  have h1 := e1_read (fun x M e M' => by unfold negD; split <;> exact fun z => nomatch z) h
  obtain ⟨ρ, δ, M, mr, sr, h1⟩ := h1
  refine ⟨ρ, δ, M, mr, sr, ?_⟩
  cases e : ma δ M with
  | ok x M1 =>
    simp only [e] at h1
    intro ρ' v H' ext mr' rv
    obtain ⟨ρ1, M1', x1, m1, r1, h2⟩ := h1 ρ' v H' ext mr' rv
    unfold negD at h2
    split at h2
    · rw [rv_int] at r1
      exact ⟨_, r1, h2.now m1 (by rw [rv_int])⟩
    · exact h2.elim
  | ex z M1 => simp only [e] at h1; exact h1
  | no => simp only [e] at h1; exact h1

/-! ### comparisons -/
def eqD (neg : Bool) : O2 := fun x y M => match x, y with
  | .str a, .str b => .ok (.bl (if neg then !decide (a = b) else decide (a = b))) M
  | x, y => match toPM M x, toPM M y with
    | some p, some q => if SeqAt.shaped p && SeqAt.shaped q then .ok (.bl (if neg then !PyData.eqv p q else PyData.eqv p q)) M else .no
    | _, _ => .no
theorem eqD_noex {neg : Bool} : NoEx (eqD neg) := by
  intro x y M e M'
  unfold eqD
  split
  · exact fun z => nomatch z
  · split
    · split <;> exact fun z => nomatch z
    · exact fun z => nomatch z
theorem dop_eq (hu : X.A.units + 64 < cLine) : DOp X g (compareOp .Eq) (eqD false) := by
  rintro pins s σ H x' y' v u Q I rx ry ⟨ρ, M, x, y, mr, r1, r2, h⟩
  unfold eqD at h
  split at h
  · rw [rv_str] at r1 r2
    subst r1 r2
    exact op_eq pins s σ H _ _ v u Q I rx ry ⟨rfl, h.now mr (by rw [rv_bl]; simp)⟩
  · split at h
    · rename_i p q ep eq
      by_cases hz : (SeqAt.shaped p && SeqAt.shaped q) = true
      · rw [if_pos hz] at h
        rw [Bool.and_eq_true] at hz
        exact op_eqD hu pins s σ H x' y' v u Q I rx ry ⟨p, q, dpM_of mr r1 ep, dpM_of mr r2 eq, hz.1, hz.2, h.now mr (by rw [rv_bl]; rfl)⟩
      · rw [if_neg hz] at h
        exact h.elim
    · exact h.elim
theorem dop_ne (hu : X.A.units + 64 < cLine) : DOp X g (compareOp .NotEq) (eqD true) := by
  rintro pins s σ H x' y' v u Q I rx ry ⟨ρ, M, x, y, mr, r1, r2, h⟩
  unfold eqD at h
  split at h
  · rw [rv_str] at r1 r2
    subst r1 r2
    exact op_ne pins s σ H _ _ v u Q I rx ry ⟨rfl, h.now mr (by rw [rv_bl]; simp)⟩
  · split at h
    · rename_i p q ep eq
      by_cases hz : (SeqAt.shaped p && SeqAt.shaped q) = true
      · rw [if_pos hz] at h
        rw [Bool.and_eq_true] at hz
        exact op_neD hu pins s σ H x' y' v u Q I rx ry ⟨p, q, dpM_of mr r1 ep, dpM_of mr r2 eq, hz.1, hz.2, h.now mr (by rw [rv_bl]; rfl)⟩
      · rw [if_neg hz] at h
        exact h.elim
    · exact h.elim
def noNone : PyData → Bool
  | .none => false
  | _ => true
/-- a < b: ints, or data of one shape -/
def ltD : O2 := fun x y M => match x, y with
  | .int i, .int j => .ok (.bl (decide (i < j))) M
  | x, y => match toPM M x, toPM M y with
    | some p, some q => if SeqAt.shaped p && SeqAt.shaped q && PySem.W.alike p q && noNone p then .ok (.bl (PySem.W.dataLt p q)) M else .no
    | _, _ => .no
theorem ltD_noex : NoEx ltD := by
  intro x y M e M'
  unfold ltD
  split
  · exact fun z => nomatch z
  · split
    · split <;> exact fun z => nomatch z
    · exact fun z => nomatch z
theorem dop_lt (hu : X.A.units + 64 < cLine) : DOp X g (compareOp .Lt) ltD := by
  rintro pins s σ H x' y' v u Q I rx ry ⟨ρ, M, x, y, mr, r1, r2, h⟩
  unfold ltD at h
  split at h
  · rename_i i j
    rw [rv_int] at r1 r2
    exact op_lt pins s σ H x' y' v u Q I rx ry ⟨i, j, r1, r2, h.now mr (by rw [rv_bl])⟩
  · split at h
    · rename_i p q ep eq
      by_cases hz : (SeqAt.shaped p && SeqAt.shaped q && PySem.W.alike p q && noNone p) = true
      · rw [if_pos hz] at h
        simp only [Bool.and_eq_true] at hz
        obtain ⟨⟨⟨z1, z2⟩, z3⟩, z4⟩ := hz
        obtain ⟨as, k1⟩ := Dp.reads I p x' v (dpM_of mr r1 ep) rx
        obtain ⟨bs, k2⟩ := Dp.reads I q y' u (dpM_of mr r2 eq) ry
        exact PySem.W.rcLt_alike p q X.A s v u as bs k1 k2 z3 (by rintro rfl; cases z4) (SeqAt.room_of_shaped z1 hu) X.prog X.w X.xe (EP X pins σ Q) ⟨.bl _, H, I, rfl, h.now mr (by rw [rv_bl])⟩
      · rw [if_neg hz] at h
        exact h.elim
    · exact h.elim
def leD : O2 := iOp (fun _ _ => true) fun i j => .bl (decide (i ≤ j))
def gtD : O2 := iOp (fun _ _ => true) fun i j => .bl (decide (j < i))
def geD : O2 := iOp (fun _ _ => true) fun i j => .bl (decide (j ≤ i))
theorem dop_le : DOp X g (compareOp .LtE) leD := dop_int (rI_of op_le) (fun _ _ _ => trivial) fun _ _ _ _ => by rw [rv_bl]
theorem dop_gt : DOp X g (compareOp .Gt) gtD := dop_int (rI_of op_gt) (fun _ _ _ => trivial) fun _ _ _ _ => by rw [rv_bl]
theorem dop_ge : DOp X g (compareOp .GtE) geD := dop_int (rI_of op_ge) (fun _ _ _ => trivial) fun _ _ _ _ => by rw [rv_bl]
def isNon : D → Bool
  | .non => true
  | _ => false
/-- is None, is True, is False -/
def isD (neg : Bool) : O2 := fun x y M => match x, y with
  | .bl a, .bl b => .ok (.bl (if neg then !decide (a = b) else decide (a = b))) M
  | x, .non => .ok (.bl (if neg then !isNon x else isNon x)) M
  | _, _ => .no
theorem isD_noex {neg : Bool} : NoEx (isD neg) := by
  intro x y M e M'
  unfold isD
  split <;> exact fun z => nomatch z
theorem rv_isNon {x : D} {v : V} (r : RV K g ρ H x v) : decide (v = .non) = isNon x := by
  cases x with
  | non => rw [rv_non] at r; subst r; rfl
  | bl b => rw [rv_bl] at r; subst r; rfl
  | int b => rw [rv_int] at r; subst r; rfl
  | str b => rw [rv_str] at r; subst r; rfl
  | ty b => rw [rv_ty] at r; subst r; rfl
  | fn b => rw [rv_fn] at r; obtain ⟨_, _, e⟩ := r; subst e; rfl
  | ref b => rw [rv_ref] at r; obtain ⟨_, _, e⟩ := r; subst e; rfl
  | lam b => rw [rv_lam] at r; obtain ⟨_, _, _, _, e, _⟩ := r; subst e; rfl
  | tup b => rw [rv_tup] at r; obtain ⟨_, _, e, _⟩ := r; subst e; rfl
  | lst b => rw [rv_lst] at r; obtain ⟨_, _, e, _⟩ := r; subst e; rfl
  | scr b => rw [rv_scr] at r; obtain ⟨_, e, _⟩ := r; subst e; rfl
theorem dop_is : DOp X g (compareOp .Is) (isD false) := by
  rintro pins s σ H x' y' v u Q I rx ry ⟨ρ, M, x, y, mr, r1, r2, h⟩
  unfold isD at h
  split at h
  · rename_i a b
    rw [rv_bl] at r1 r2
    exact op_isBl pins s σ H x' y' v u Q I rx ry ⟨a, b, r1, r2, h.now mr (by rw [rv_bl]; rfl)⟩
  · rw [rv_non] at r2
    exact op_isN pins s σ H x' y' v u Q I rx ry ⟨r2, h.now mr (by rw [rv_bl, rv_isNon r1]; rfl)⟩
  · exact h.elim
theorem dop_isnot : DOp X g (compareOp .IsNot) (isD true) := by
  rintro pins s σ H x' y' v u Q I rx ry ⟨ρ, M, x, y, mr, r1, r2, h⟩
  unfold isD at h
  split at h
  · rename_i a b
    rw [rv_bl] at r1 r2
    exact op_notBl pins s σ H x' y' v u Q I rx ry ⟨a, b, r1, r2, h.now mr (by rw [rv_bl]; rfl)⟩
  · rw [rv_non] at r2
    exact op_notN pins s σ H x' y' v u Q I rx ry ⟨r2, h.now mr (by rw [rv_bl, rv_isNon r1]; rfl)⟩
  · exact h.elim

/-! ### keys, in -/
def keyOf : D → Option Key
  | .int i => some (.inl i)
  | .str s => some (.inr s)
  | _ => none
def keysOf : List D → Option (List Key)
  | [] => some []
  | d :: ds => match keyOf d, keysOf ds with
    | some k, some ks => some (k :: ks)
    | _, _ => none
def tkeyOf : D → Option (List Key)
  | .tup ds => keysOf ds
  | _ => none
theorem keyOf_ok {d : D} {k : Key} {v : V} (r : RV K g ρ H d v) (e : keyOf d = some k) : v = kV k := by
  cases d with
  | int i => cases e; rw [rv_int] at r; exact r
  | str i => cases e; rw [rv_str] at r; exact r
  | _ => cases e
theorem keysOf_ok : ∀ {ds : List D} {ks : List Key} {vs : List V}, RVs K g ρ H ds vs → keysOf ds = some ks → vs = ks.map kV
  | [], _, _, r, e => by rw [keysOf] at e; cases e; rw [rvs_nil] at r; rw [r]; rfl
  | d :: ds, _, _, r, e => by
    rw [rvs_cons] at r
    obtain ⟨v, vr, e1, h1, h2⟩ := r
    subst e1
    rw [keysOf] at e
    cases q : keyOf d with
    | none => rw [q] at e; cases e
    | some p =>
      cases q2 : keysOf ds with
      | none => rw [q, q2] at e; cases e
      | some ps =>
        rw [q, q2] at e
        cases e
        rw [keyOf_ok h1 q, keysOf_ok h2 q2]
        rfl
def lookD {κ : Type} [DecidableEq κ] (kvs : List (κ × D)) (k : κ) : Option D := (kvs.find? fun kv => decide (kv.1 = k)).map (·.2)
/-- what a dict of the memory holds at a key: none: no dict, no such key -/
def dgetD (M : Mem) (d y : D) : Option (Option D) := match d with
  | .ref n => match M[n]? with
    | some (.dK kvs) => (keyOf y).map fun k => lookD kvs k
    | some (.dT kvs) => (tkeyOf y).map fun k => lookD kvs k
    | _ => none
  | _ => none
def ROp (K : PySem.W.Frag) (g : Gm) (ρ : List Addr) (H : Hp) : Option D → Option V → Prop
  | some d, some v => RV K g ρ H d v
  | none, none => True
  | _, _ => False
theorem kvr_look {κ : Type} [DecidableEq κ] : ∀ {kvs : List (κ × D)} {kvs' : List (κ × V)} (k : κ), KVr K g ρ H kvs kvs' → ROp K g ρ H (lookD kvs k) (valV kvs' k)
  | [], kvs', k, ⟨h1, _⟩ => by
    have : kvs' = [] := by simpa using h1.symm
    subst this
    exact trivial
  | (a, d) :: kvs, [], k, ⟨h1, _⟩ => by simp at h1
  | (a, d) :: kvs, (b, v) :: kvs', k, ⟨h1, h2⟩ => by
    simp only [List.map_cons, List.cons.injEq] at h1
    rw [List.map_cons, List.map_cons, rvs_cons] at h2
    obtain ⟨v0, r0, e, h3, h4⟩ := h2
    simp only [List.cons.injEq] at e
    obtain ⟨e1, e2⟩ := e
    obtain ⟨h5, h6⟩ := h1
    subst h5 e1 e2
    by_cases hk : a = k
    · simp only [lookD, valV, List.find?_cons, hk, decide_true, Option.map_some]
      exact h3
    · have := kvr_look (kvs := kvs) (kvs' := kvs') k ⟨h6, h4⟩
      simpa only [lookD, valV, List.find?_cons, hk, decide_false] using this
theorem tkeyOf_ok {d : D} {ks : List Key} {v : V} (r : RV K g ρ H d v) (e : tkeyOf d = some ks) : ∃ p, v = .ref p ∧ H p = some (.tup (ks.map kV)) := by
  cases d with
  | tup ys =>
    rw [rv_tup] at r
    obtain ⟨p, vs, e3, s1, q1⟩ := r
    rw [keysOf_ok q1 e] at s1
    exact ⟨p, e3, s1⟩
  | _ => cases e
theorem dget_ok {d y : D} {o : Option D} {v yv : V} (mr : MR K g ρ M H) (r : RV K g ρ H d v) (ry : RV K g ρ H y yv) (e : dgetD M d y = some o) :
    ∃ a o', v = .ref a ∧ DGet H a yv o' ∧ ROp K g ρ H o o' := by
  cases d with
  | ref n =>
    simp only [dgetD] at e
    rw [rv_ref] at r
    obtain ⟨a, e1, e2⟩ := r
    split at e
    · rename_i kvs h
      obtain ⟨kvs', h1, h2⟩ := mr.obj _ _ _ e1 h
      cases q : keyOf y with
      | none => rw [q] at e; cases e
      | some k =>
        rw [q] at e
        cases e
        have := keyOf_ok ry q
        subst this
        exact ⟨a, _, e2, DGet.k h1, kvr_look k h2⟩
    · rename_i kvs h
      obtain ⟨kvs', h1, h2⟩ := mr.obj _ _ _ e1 h
      cases q : tkeyOf y with
      | none => rw [q] at e; cases e
      | some k =>
        rw [q] at e
        cases e
        obtain ⟨p, e3, s1⟩ := tkeyOf_ok ry q
        subst e3
        exact ⟨a, _, e2, DGet.t h1 s1, kvr_look k h2⟩
    · cases e
  | _ => cases e
def oneSign (s : Str) : Option Nat := match s.cps.toList with
  | [c] => some c
  | _ => none
theorem oneSign_ok {s : Str} {c : Nat} (h : oneSign s = some c) : s = ⟨#[c]⟩ := by
  unfold oneSign at h
  split at h
  · rename_i a e
    cases h
    obtain ⟨⟨l⟩⟩ := s
    have e' : l = [c] := e
    subst e'
    rfl
  · cases h
/-- x in y -/
def inD (neg : Bool) : O2 := fun x y M => match dgetD M y x with
  | some o => .ok (.bl (if neg then !o.isSome else o.isSome)) M
  | none => match toPM M x, toPM M y with
    | some d, some (.list ds) => if SeqAt.shaped d && SeqAt.shaped (.list ds) then .ok (.bl (if neg then !(ds.any fun z => PyData.eqv z d) else ds.any fun z => PyData.eqv z d)) M else .no
    | some d, some (.tuple ds) => if SeqAt.shaped d && SeqAt.shaped (.tuple ds) then .ok (.bl (if neg then !(ds.any fun z => PyData.eqv z d) else ds.any fun z => PyData.eqv z d)) M else .no
    | some (.str a), some (.str z) => match oneSign a with
      | some c => .ok (.bl (if neg then !decide (c ∈ z.cps.toList) else decide (c ∈ z.cps.toList))) M
      | none => .no
    | _, _ => .no
theorem ite_noex {b : Bool} {d : D} {M : Mem} {e : Exn} {M' : Mem} : (if b = true then Rs.ok d M else Rs.no) ≠ Rs.ex e M' := by
  cases b <;> exact fun z => nomatch z
theorem inD_noex {neg : Bool} : NoEx (inD neg) := by
  intro x y M e M'
  unfold inD
  split
  · exact fun z => nomatch z
  · split
    · exact ite_noex
    · exact ite_noex
    · cases oneSign _ <;> exact fun z => nomatch z
    · exact fun z => nomatch z
theorem ROp.isSome {o : Option D} {o' : Option V} (h : ROp K g ρ H o o') : o.isSome = o'.isSome := by
  cases o <;> cases o' <;> first | rfl | exact h.elim
theorem dop_in (hu : X.A.units + 65 < cLine) : DOp X g (compareOp .In) (inD false) := by
  rintro pins s σ H x' y' v u Q I rx ry ⟨ρ, M, x, y, mr, r1, r2, h⟩
  unfold inD at h
  split at h
  · rename_i o e
    obtain ⟨a, o', e1, gt, ro⟩ := dget_ok mr r2 r1 e
    subst e1
    cases ry
    refine d_in (by omega) I gt rx fun s' I' => ⟨.bl _, H, I', rfl, ?_⟩
    exact h.now mr (by rw [rv_bl, ← ro.isSome]; rfl)
  · split at h
    · rename_i d ds e1 e2
      by_cases hz : (SeqAt.shaped d && SeqAt.shaped (.list ds)) = true
      · rw [if_pos hz] at h
        rw [Bool.and_eq_true] at hz
        obtain ⟨as, k1⟩ := Dp.reads I d x' v (dpM_of mr r1 e1) rx
        obtain ⟨bs, k2⟩ := Dp.reads I _ y' u (dpM_of mr r2 e2) ry
        exact SeqAt.in_list_reads k2 k1 (SeqAt.canLay_of_shaped hz.2) (SeqAt.canLay_of_shaped hz.1) (PyProof.Rows.room_in_shaped hz.1 hu) ⟨.bl _, H, I, rfl, h.now mr (by rw [rv_bl]; rfl)⟩
      · rw [if_neg hz] at h
        exact h.elim
    · rename_i d ds e1 e2
      by_cases hz : (SeqAt.shaped d && SeqAt.shaped (.tuple ds)) = true
      · rw [if_pos hz] at h
        rw [Bool.and_eq_true] at hz
        obtain ⟨as, k1⟩ := Dp.reads I d x' v (dpM_of mr r1 e1) rx
        obtain ⟨bs, k2⟩ := Dp.reads I _ y' u (dpM_of mr r2 e2) ry
        exact SeqAt.in_tuple_reads k2 k1 (SeqAt.canLay_of_shaped hz.2) (SeqAt.canLay_of_shaped hz.1) (PyProof.Rows.room_in_shaped hz.1 hu) ⟨.bl _, H, I, rfl, h.now mr (by rw [rv_bl]; rfl)⟩
      · rw [if_neg hz] at h
        exact h.elim
    · rename_i a z e1 e2
      have d1 := dpM_of mr r1 e1
      have d2 := dpM_of mr r2 e2
      cases d1
      cases d2
      split at h
      · rename_i c ec
        exact op_in_sign pins s σ H _ _ v u Q I rx ry ⟨c, z, by rw [oneSign_ok ec], rfl, h.now mr (by rw [rv_bl]; rfl)⟩
      · exact h.elim
    · exact h.elim
theorem dop_notin (hu : X.A.units + 65 < cLine) : DOp X g (compareOp .NotIn) (inD true) := by
  rintro pins s σ H x' y' v u Q I rx ry ⟨ρ, M, x, y, mr, r1, r2, h⟩
  unfold inD at h
  split at h
  · rename_i o e
    obtain ⟨a, o', e1, gt, ro⟩ := dget_ok mr r2 r1 e
    subst e1
    cases ry
    refine d_notIn (by omega) I gt rx fun s' I' => ⟨.bl _, H, I', rfl, ?_⟩
    exact h.now mr (by rw [rv_bl, ← ro.isSome]; rfl)
  · split at h
    · rename_i d ds e1 e2
      by_cases hz : (SeqAt.shaped d && SeqAt.shaped (.list ds)) = true
      · rw [if_pos hz] at h
        rw [Bool.and_eq_true] at hz
        obtain ⟨as, k1⟩ := Dp.reads I d x' v (dpM_of mr r1 e1) rx
        obtain ⟨bs, k2⟩ := Dp.reads I _ y' u (dpM_of mr r2 e2) ry
        exact SeqAt.notIn_list_reads k2 k1 (SeqAt.canLay_of_shaped hz.2) (SeqAt.canLay_of_shaped hz.1) (PyProof.Rows.room_in_shaped hz.1 hu) ⟨.bl _, H, I, rfl, h.now mr (by rw [rv_bl]; rfl)⟩
      · rw [if_neg hz] at h
        exact h.elim
    · rename_i d ds e1 e2
      by_cases hz : (SeqAt.shaped d && SeqAt.shaped (.tuple ds)) = true
      · rw [if_pos hz] at h
        rw [Bool.and_eq_true] at hz
        obtain ⟨as, k1⟩ := Dp.reads I d x' v (dpM_of mr r1 e1) rx
        obtain ⟨bs, k2⟩ := Dp.reads I _ y' u (dpM_of mr r2 e2) ry
        exact SeqAt.notIn_tuple_reads k2 k1 (SeqAt.canLay_of_shaped hz.2) (SeqAt.canLay_of_shaped hz.1) (PyProof.Rows.room_in_shaped hz.1 hu) ⟨.bl _, H, I, rfl, h.now mr (by rw [rv_bl]; rfl)⟩
      · rw [if_neg hz] at h
        exact h.elim
    · rename_i a z e1 e2
      have d1 := dpM_of mr r1 e1
      have d2 := dpM_of mr r2 e2
      cases d1
      cases d2
      split at h
      · rename_i c ec
        exact op_notIn_sign pins s σ H _ _ v u Q I rx ry ⟨c, z, by rw [oneSign_ok ec], rfl, h.now mr (by rw [rv_bl]; rfl)⟩
      · exact h.elim
    · exact h.elim
end
end
end Dl

set_option Elab.async false
set_option linter.all false
set_option autoImplicit false
set_option maxRecDepth 100000
set_option maxHeartbeats 4000000
/-! The D-layer: tests, subscripts, slices, plain statements. -/
namespace Dl
noncomputable section
open PySem PySem.Spec L2
section
variable {X : Cx} {g : Gm} {W : WX} {K : PySem.W.Frag} {σ : L2.St} {H : Hp} {ρ ρ' : List Addr} {M M' : Mem} {H' : Hp} {a b c : Expr} {ma mb mc : EE} {pos : Pos}

/-! ### tests -/
def truD (M : Mem) : D → Option Bool
  | .non => some false
  | .bl b => some b
  | .int i => some (i != 0)
  | .str s => if sz s.length then some ((s.length : Int) != 0) else none
  | .tup ds => some (!ds.isEmpty)
  | .lst ds => some (!ds.isEmpty)
  | .scr ns => some (!ns.isEmpty)
  | .ref n => match M[n]? with
    | some (.lst ds) => some (!ds.isEmpty)
    | some (.dK kvs) => some (!kvs.isEmpty)
    | _ => none
  | _ => none
theorem isEmpty_rvs {ds : List D} {vs : List V} (r : RVs K g ρ H ds vs) : vs.isEmpty = ds.isEmpty := by
  cases ds with
  | nil => rw [rvs_nil] at r; rw [r]; rfl
  | cons d ds => rw [rvs_cons] at r; obtain ⟨v, vr, e, _⟩ := r; rw [e]; rfl
theorem truD_ok {d : D} {v : V} {k : Bool} (m : MR K g ρ M H) (r : RV K g ρ H d v) (e : truD M d = some k) : TruV K v H k := by
  cases d with
  | non => rw [rv_non] at r; cases e; subst r; exact rfl
  | bl b => rw [rv_bl] at r; cases e; subst r; exact rfl
  | int b => rw [rv_int] at r; cases e; subst r; exact rfl
  | str s =>
    rw [rv_str] at r
    simp only [truD] at e
    split at e
    · rename_i hz
      cases e; subst r
      exact ⟨by simpa [sz] using hz, rfl⟩
    · cases e
  | tup ds =>
    rw [rv_tup] at r
    obtain ⟨p, vs, e1, s1, q1⟩ := r
    cases e; subst e1
    exact .inr (.inl ⟨vs, SqT.of s1, by rw [isEmpty_rvs q1]⟩)
  | lst ds =>
    rw [rv_lst] at r
    obtain ⟨p, vs, e1, s1, q1⟩ := r
    cases e; subst e1
    exact .inl ⟨vs, s1.sq, by rw [isEmpty_rvs q1]⟩
  | scr ns =>
    rw [rv_scr] at r
    obtain ⟨p, e1, s1⟩ := r
    cases e; subst e1
    exact .inl ⟨_, s1.sq, by simp⟩
  | ref n =>
    rw [rv_ref] at r
    obtain ⟨p, e1, e2⟩ := r
    subst e2
    simp only [truD] at e
    split at e
    · rename_i ds h
      cases e
      obtain ⟨vs, h1, h2⟩ := m.obj _ _ _ e1 h
      exact .inl ⟨vs, SqL.of h1, by rw [isEmpty_rvs h2]⟩
    · rename_i kvs h
      cases e
      obtain ⟨vs, h1, h2, h3⟩ := m.obj _ _ _ e1 h
      refine .inr (.inr ⟨vs, h1, ?_⟩)
      cases kvs <;> cases vs <;> first | rfl | (simp at h2)
    · cases e
  | _ => cases e
/-- an expression, then a test of its value -/
def tOf (f : D → Mem → Option Bool) (m : EE) : TT' := fun δ M => (m δ M).bind fun d M => ofO (f d M) M
theorem tOf_read {f : D → Mem → Option Bool} {m : EE} {Q : Bool → Hp → Prop} (h : tT X.K g W (tOf f m) σ H Q) :
    tE X.K g W m σ H fun x H1 => ∃ ρ M d k, MR X.K g ρ M H1 ∧ RV X.K g ρ H1 d x ∧ f d M = some k ∧ Q k H1 := by
  have h1 := tD_bind (R1 := RV X.K g) (R2 := fun _ _ (a b : Bool) => b = a) (f := fun a _ M => ofO (f a M) M) h
  obtain ⟨ρ, δ, M, mr, sr, h1⟩ := h1
  refine ⟨ρ, δ, M, mr, sr, ?_⟩
  cases e : m δ M with
  | ok x M1 =>
    simp only [e] at h1
    intro ρ' v H' ext mr' rv
    obtain ⟨ρ1, δ1, M1', x1, m1, s1, r1, h2⟩ := h1 ρ' v H' ext mr' rv
    cases q : f x1 M1' with
    | none => rw [q] at h2; exact h2.elim
    | some k => rw [q] at h2; exact ⟨ρ1, M1', x1, k, m1, r1, q, h2.now m1 rfl⟩
  | ex z M1 => simp only [e] at h1; exact h1
  | no => simp only [e] at h1; exact h1
def isB (d : D) (_ : Mem) : Option Bool := match d with
  | .bl b => some b
  | _ => none
abbrev tTru (m : EE) : TT' := tOf (fun d M => truD M d) m
abbrev tBl (m : EE) : TT' := tOf isB m
theorem tE_mono {m : EE} {Q Q' : VK} (h : tE X.K g W m σ H Q) (i : ∀ v H, Q v H → Q' v H) : tE X.K g W m σ H Q' := by
  obtain ⟨ρ, δ, M, mr, sr, h⟩ := h
  refine ⟨ρ, δ, M, mr, sr, ?_⟩
  cases e : m δ M with
  | ok x M1 => simp only [e] at h; exact fun ρ' v H' ext mr' rv => i _ _ (h ρ' v H' ext mr' rv)
  | ex z M1 => simp only [e] at h; exact h
  | no => simp only [e] at h; exact h
theorem dt_tru (ha : DE X g W a ma) (he : ∀ whole, isTrue a X.env whole = (do let v ← whole; standAt a.pos; holding [v] (truthy v)) := by intro _; rfl) : DT X g W a (tTru ma) :=
  ⟨PT.imp (pt_truth ha.pe he) fun σ H Q h => tE_mono (tOf_read h) fun v H ⟨ρ, M, d, k, mr, r, e, q⟩ => ⟨k, truD_ok mr r e, q⟩⟩
theorem bl_read {m : EE} {Q : Bool → Hp → Prop} (h : tT X.K g W (tBl m) σ H Q) : tE X.K g W m σ H fun x H' => ∃ k, x = .bl k ∧ Q k H' :=
  tE_mono (tOf_read h) fun v H ⟨ρ, M, d, k, mr, r, e, q⟩ => by
    cases d with
    | bl b => cases e; rw [rv_bl] at r; exact ⟨_, r, q⟩
    | _ => cases e
theorem dt_cmp {op : CmpOp} {o : O2} (ho : DOp X g (compareOp op) o) (hn : NoEx o) (ha : DE X g W a ma) (hb : DE X g W b mb) (hm : behindInMarks op b = false := by first | exact nomark _ | rfl) : DT X g W (.Compare a [op] [b] pos) (tBl (e2 o ma mb)) :=
  ⟨PT.imp (pt_cmpR ho ha.pe hb.pe hm) fun σ H Q h => e2_read hn (bl_read h)⟩
/-- a op b op' c -/
def eChain (o o' : O2) (ma mb mc : EE) : EE := fun δ M => (ma δ M).bind fun x M1 => (mb δ M1).bind fun y M2 => (o x y M2).bind fun k M3 => match k with
  | .bl true => (mc δ M3).bind fun z M4 => o' y z M4
  | .bl false => .ok (.bl false) M3
  | _ => .no
theorem chain_read {o o' : O2} (hn : NoEx o) (hn' : NoEx o') {Q : VK} (h : tE X.K g W (eChain o o' ma mb mc) σ H Q) : tChain (rB X.K g o) (rB X.K g o') (tE X.K g W ma) (tE X.K g W mb) (tE X.K g W mc) σ H Q := by
  have h1 := tD_bind (R1 := RV X.K g) (R2 := RV X.K g) (m := ma) h
  obtain ⟨ρ, δ, M, mr, sr, h1⟩ := h1
  refine ⟨ρ, δ, M, mr, sr, ?_⟩
  cases e : ma δ M with
  | ex z M1 => simp only [e] at h1; exact h1
  | no => simp only [e] at h1; exact h1
  | ok x M1 =>
    simp only [e] at h1
    intro ρ' v H' ext mr' rv
    obtain ⟨ρ1, δ1, M1', x1, m1, s1, r1, h2⟩ := h1 ρ' v H' ext mr' rv
    have h3 := tD_then (R1 := RV X.K g) (R2 := RV X.K g) (δ := δ1) (m := mb) (f := fun y δ M2 => (o x1 y M2).bind fun k M3 => match k with
      | .bl true => (mc δ M3).bind fun z M4 => o' y z M4
      | .bl false => .ok (.bl false) M3
      | _ => .no) m1 s1 h2
    obtain ⟨ρ2, δ2, M2, m2, s2, h3⟩ := h3
    refine ⟨ρ2, δ2, M2, m2, s2, ?_⟩
    cases e' : mb δ2 M2 with
    | ex z M3 => simp only [e'] at h3; exact h3
    | no => simp only [e'] at h3; exact h3
    | ok y M3 =>
      simp only [e'] at h3
      intro ρ3 u H3 ext3 m3 r3
      obtain ⟨ρ4, M4, y4, ext4, m4, s4, r4, h4⟩ := h3 ρ3 u H3 ext3 m3 r3
      refine ⟨ρ4, M4, x1, y4, m4, ext4.rv r1, r4, ?_⟩
      cases e4 : o x1 y4 M4 with
      | ex z M5 => exact absurd e4 (hn _ _ _ _ _)
      | no => rw [e4] at h4; exact h4
      | ok k M5 =>
        rw [e4, Rs.bind_ok] at h4
        intro ρ5 vk H5 ext5 m5 r5
        have h5 := h4.at ext5 m4.len m5.len
        cases k with
        | bl k =>
          rw [rv_bl] at r5
          refine ⟨k, r5, ?_⟩
          cases k with
          | false => rw [if_neg Bool.false_ne_true]; exact h5.now m5 (by rw [rv_bl])
          | true =>
            rw [if_pos rfl]
            have h6 := tD_then (R1 := RV X.K g) (δ := δ1) (m := mc) (f := fun z _ M => o' y4 z M) m5 (ext5.sr s4) h5
            refine tE_mono h6 fun z H6 ⟨ρ6, M6, z6, ext6, m6, s6, r6, h7⟩ => ?_
            exact rB_of hn' m6 (ext6.rv (ext5.rv r4)) r6 h7
        | _ => exact h5.elim
theorem de_chain {op op' : CmpOp} {o o' : O2} (ho : DOp X g (compareOp op) o) (ho' : DOp X g (compareOp op') o') (hn : NoEx o) (hn' : NoEx o') (ha : DE X g W a ma) (hb : DE X g W b mb) (hc : DE X g W c mc)
    (hm : lastMarks [op, op'] [b, c] = false := by with_unfolding_all rfl) : DE X g W (.Compare a [op, op'] [b, c] pos) (eChain o o' ma mb mc) :=
  ⟨PE.imp (pe_chain ho ho' ha.pe hb.pe hc.pe hm) fun σ H Q h => chain_read hn hn' h⟩
theorem dt_chain {op op' : CmpOp} {o o' : O2} (ho : DOp X g (compareOp op) o) (ho' : DOp X g (compareOp op') o') (hn : NoEx o) (hn' : NoEx o') (ha : DE X g W a ma) (hb : DE X g W b mb) (hc : DE X g W c mc)
    (hm : lastMarks [op, op'] [b, c] = false := by with_unfolding_all rfl) : DT X g W (.Compare a [op, op'] [b, c] pos) (tBl (eChain o o' ma mb mc)) :=
  ⟨PT.imp (pt_chain ho ho' ha.pe hb.pe hc.pe hm) fun σ H Q h => chain_read hn hn' (bl_read h)⟩

/-! ### and, or, not -/
structure DW (X : Cx) (g : Gm) (W : WX) (e : Expr) (m : TT') : Prop where
  pw : PW X e (tT X.K g W m)
theorem PW.imp {e : Expr} {t t' : TT} (h : PW X e t) (i : ∀ σ H Q, t' σ H Q → t σ H Q) : PW X e t' := ⟨fun wh pins s σ H Q I q => h.run wh pins s σ H Q I (i σ H Q q)⟩
theorem DW.dt {e : Expr} {m : TT'} (h : DW X g W e m) : DT X g W e m := ⟨h.pw.pt⟩
variable {t u : TT'} {rest : List Expr}
def bAnd (t u : TT') : TT' := fun δ M => (t δ M).bind fun c M1 => if c then u δ M1 else .ok false M1
def bOr (t u : TT') : TT' := fun δ M => (t δ M).bind fun c M1 => if c then .ok true M1 else u δ M1
def bNot (t : TT') : TT' := fun δ M => (t δ M).bind fun c M1 => .ok (!c) M1
/-- a test, then what follows by its answer -/
theorem tT_bind {β γ : Type} {R2 : List Addr → Hp → β → γ → Prop} {f : Bool → Loc → Mem → Rs β} {Q : γ → Hp → Prop} (h : tD X.K g R2 W (fun δ M => (t δ M).bind fun c M => f c δ M) σ H Q) :
    tT X.K g W t σ H fun c H1 => ∃ ρ δ M, MR X.K g ρ M H1 ∧ SR X.K g ρ H1 δ σ ∧ rOk X.K g R2 W ρ M σ H1 (f c δ M) Q := by
  have h1 := tD_bind (R1 := fun _ _ (a b : Bool) => b = a) (R2 := R2) h
  obtain ⟨ρ, δ, M, mr, sr, h1⟩ := h1
  refine ⟨ρ, δ, M, mr, sr, ?_⟩
  cases e : t δ M with
  | ok x M1 =>
    simp only [e] at h1
    intro ρ' v H' ext mr' rv
    obtain ⟨ρ1, δ1, M1', x1, m1, s1, r1, h2⟩ := h1 ρ' v H' ext mr' rv
    subst r1
    exact ⟨ρ1, δ1, M1', m1, s1, h2⟩
  | ex z M1 => simp only [e] at h1; exact h1
  | no => simp only [e] at h1; exact h1
theorem dw_and1 (ha : DT X g W a t) : DW X g W (.BoolOp .And [a] pos) t := ⟨pw_and1 ha.pt⟩
theorem dw_or1 (ha : DT X g W a t) : DW X g W (.BoolOp .Or [a] pos) t := ⟨pw_or1 ha.pt⟩
theorem tT_mono {Q Q' : Bool → Hp → Prop} (h : tT X.K g W t σ H Q) (i : ∀ v H, Q v H → Q' v H) : tT X.K g W t σ H Q' := by
  obtain ⟨ρ, δ, M, mr, sr, h⟩ := h
  refine ⟨ρ, δ, M, mr, sr, ?_⟩
  cases e : t δ M with
  | ok x M1 => simp only [e] at h; exact fun ρ' v H' ext mr' rv => i _ _ (h ρ' v H' ext mr' rv)
  | ex z M1 => simp only [e] at h; exact h
  | no => simp only [e] at h; exact h
theorem dw_and (ha : DT X g W a t) (hb : DW X g W (.BoolOp .And (b :: rest) pos) u) : DW X g W (.BoolOp .And (a :: b :: rest) pos) (bAnd t u) := by
  refine ⟨PW.imp (pw_and ha.pt hb.pw) fun σ H Q h => tT_mono (tT_bind (R2 := fun _ _ (a b : Bool) => b = a) h) fun c H1 ⟨ρ, δ, M, mr, sr, h1⟩ => ?_⟩
  cases c with
  | true => exact ⟨ρ, δ, M, mr, sr, h1⟩
  | false => exact rOk.now h1 mr rfl
theorem dw_or (ha : DT X g W a t) (hb : DW X g W (.BoolOp .Or (b :: rest) pos) u) : DW X g W (.BoolOp .Or (a :: b :: rest) pos) (bOr t u) := by
  refine ⟨PW.imp (pw_or ha.pt hb.pw) fun σ H Q h => tT_mono (tT_bind (R2 := fun _ _ (a b : Bool) => b = a) h) fun c H1 ⟨ρ, δ, M, mr, sr, h1⟩ => ?_⟩
  cases c with
  | false => exact ⟨ρ, δ, M, mr, sr, h1⟩
  | true => exact rOk.now h1 mr rfl
theorem dt_not (ha : DT X g W a t) : DT X g W (.UnaryOp .Not a pos) (bNot t) :=
  ⟨PT.imp (pt_not ha.pt) fun σ H Q h => tT_mono (tT_bind (R2 := fun _ _ (a b : Bool) => b = a) h) fun c H1 ⟨ρ, δ, M, mr, sr, h1⟩ => rOk.now h1 mr rfl⟩
/-- as values -/
def eAnd (ma mb : EE) : EE := fun δ M => (ma δ M).bind fun x M1 => match x with
  | .bl true => mb δ M1
  | .bl false => .ok (.bl false) M1
  | _ => .no
def eOr (ma mb : EE) : EE := fun δ M => (ma δ M).bind fun x M1 => match x with
  | .bl false => mb δ M1
  | .bl true => .ok (.bl true) M1
  | _ => .no
theorem de_one {op : BoolOp} (ha : DE X g W a ma) : DE X g W (.BoolOp op [a] pos) ma := ⟨pe_one ha.pe⟩
theorem de_and (ha : DE X g W a ma) (hb : DE X g W (.BoolOp .And (b :: rest) pos) mb) : DE X g W (.BoolOp .And (a :: b :: rest) pos) (eAnd ma mb) := by
  refine ⟨PE.imp (pe_and ha.pe hb.pe) fun σ H Q h => tE_mono (tD_bind (R1 := RV X.K g) (R2 := RV X.K g) (m := ma) h) fun v H1 ⟨ρ, δ, M, x, mr, sr, rv, h1⟩ => ?_⟩
  split at h1
  · rw [rv_bl] at rv
    exact ⟨true, rv, by rw [if_pos rfl]; exact ⟨ρ, δ, M, mr, sr, h1⟩⟩
  · rw [rv_bl] at rv
    exact ⟨false, rv, by rw [if_neg Bool.false_ne_true]; exact h1.now mr (by rw [rv_bl])⟩
  · exact h1.elim
theorem de_or (ha : DE X g W a ma) (hb : DE X g W (.BoolOp .Or (b :: rest) pos) mb) : DE X g W (.BoolOp .Or (a :: b :: rest) pos) (eOr ma mb) := by
  refine ⟨PE.imp (pe_or ha.pe hb.pe) fun σ H Q h => tE_mono (tD_bind (R1 := RV X.K g) (R2 := RV X.K g) (m := ma) h) fun v H1 ⟨ρ, δ, M, x, mr, sr, rv, h1⟩ => ?_⟩
  split at h1
  · rw [rv_bl] at rv
    exact ⟨false, rv, by rw [if_neg Bool.false_ne_true]; exact ⟨ρ, δ, M, mr, sr, h1⟩⟩
  · rw [rv_bl] at rv
    exact ⟨true, rv, by rw [if_pos rfl]; exact h1.now mr (by rw [rv_bl])⟩
  · exact h1.elim
def notD : D → Mem → Rs D := fun x M => match x with
  | .bl b => .ok (.bl (!b)) M
  | _ => .no
theorem de_not (ha : DE X g W a ma) : DE X g W (.UnaryOp .Not a pos) (e1 notD ma) := by
  refine ⟨PE.imp (pe_not ha.pe) fun σ H Q h => tE_mono (e1_read (fun x M e M' => by unfold notD; split <;> exact fun z => nomatch z) h) fun v H1 ⟨ρ, M, x, mr, rv, h1⟩ => ?_⟩
  unfold notD at h1
  split at h1
  · rw [rv_bl] at rv
    exact ⟨_, rv, h1.now mr (by rw [rv_bl])⟩
  · exact h1.elim
def eIf (t : TT') (ma mb : EE) : EE := fun δ M => (t δ M).bind fun c M1 => if c then ma δ M1 else mb δ M1
theorem de_if (hc : DT X g W c t) (ha : DE X g W a ma) (hb : DE X g W b mb) : DE X g W (.IfExp c a b pos) (eIf t ma mb) := by
  refine ⟨PE.imp (pe_ifExp hc.pt ha.pe hb.pe) fun σ H Q h => tT_mono (tT_bind (R2 := RV X.K g) h) fun c H1 ⟨ρ, δ, M, mr, sr, h1⟩ => ?_⟩
  cases c with
  | true => rw [if_pos rfl]; exact ⟨ρ, δ, M, mr, sr, h1⟩
  | false => rw [if_neg Bool.false_ne_true]; exact ⟨ρ, δ, M, mr, sr, h1⟩

/-! ### subscripts -/
def ixD : O2 := fun x y M => match dgetD M x y with
  | some (some d) => .ok d M
  | some none => .no
  | none => match y with
    | .int i => match getQ M x with
      | some ds => ofO (atI ds i) M
      | none => match x with
        | .str z => if sz z.length then ofO ((atI z.cps.toList i).map fun c => D.str ⟨#[c]⟩) M else .no
        | _ => .no
    | _ => .no
theorem ofO_noex {α : Type} {o : Option α} {M : Mem} {e : Exn} {M' : Mem} : ofO o M ≠ .ex e M' := by cases o <;> exact fun z => nomatch z
theorem ixD_noex : NoEx ixD := by
  intro x y M e M'
  unfold ixD
  split
  · exact fun z => nomatch z
  · exact fun z => nomatch z
  · split
    · split
      · exact ofO_noex
      · split
        · split
          · exact ofO_noex
          · exact fun z => nomatch z
        · exact fun z => nomatch z
    · exact fun z => nomatch z
theorem RVs.atI {ds : List D} {vs : List V} {i : Int} {d : D} (r : RVs K g ρ H ds vs) (e : L2.atI ds i = some d) : ∃ v, L2.atI vs i = some v ∧ RV K g ρ H d v := by
  unfold L2.atI at e ⊢
  rw [r.length]
  cases q : ixN ds.length i with
  | none => rw [q] at e; cases e
  | some j => rw [q] at e; exact r.get e
theorem de_ix (hu : X.A.units + 1 < cLine) (ha : DE X g W a ma) (hb : DE X g W b mb) (hs : PlainIx b := by exact fun _ _ => rfl) : DE X g W (.Subscript a b pos) (e2 ixD ma mb) := by
  have hr : IxR X (rB X.K g ixD) := by
    rintro value slice pins s σ H x' y' v u Q I rx ry ⟨ρ, M, x, y, mr, r1, r2, h⟩ hsub
    unfold ixD at h
    split at h
    · rename_i d e
      obtain ⟨p, o', e1, gt, ro⟩ := dget_ok mr r1 r2 e
      subst e1
      cases rx
      cases o' with
      | none => exact ro.elim
      | some w => exact PyProof.Rows.tail_any (dict_typeIs I gt) PySem.F.slot_dict_getitem.lookup (d_getItem hu I gt ry fun w' s' I' rw' => ⟨w, H, I', rw', h.now mr ro⟩) hsub
    · exact h.elim
    · split at h
      · rename_i i _
        rw [rv_int] at r2
        split at h
        · rename_i ds e
          obtain ⟨p, vs, e1, s1, q1⟩ := getQ_ok mr e r1
          obtain ⟨d, ed, h⟩ := h.ofO
          obtain ⟨w, ew, rw'⟩ := q1.atI ed
          rcases s1 with s1 | s1
          · exact ix_list value slice pins s σ H x' y' v u Q I rx ry ⟨p, vs, i, w, e1, r2, s1, ew, h.now mr rw'⟩ hsub
          · exact ix_tup value slice pins s σ H x' y' v u Q I rx ry ⟨p, vs, i, w, e1, r2, s1, ew, h.now mr rw'⟩ hsub
        · split at h
          · rename_i z _ _
            rw [rv_str] at r1
            by_cases hz : sz z.length = true
            · rw [if_pos hz] at h
              obtain ⟨d, ed, h⟩ := h.ofO
              cases q : atI z.cps.toList i with
              | none => rw [q] at ed; cases ed
              | some cc =>
                rw [q] at ed
                cases ed
                exact ix_str value slice pins s σ H x' y' v u Q I rx ry ⟨z, i, cc, r1, r2, by simpa [sz] using hz, q, h.now mr (by rw [rv_str])⟩ hsub
            · rw [if_neg hz] at h
              exact h.elim
          · exact h.elim
      · exact h.elim
  exact ⟨PE.imp (pe_ix hr ha.pe hb.pe hs) fun _ _ _ h => e2_read ixD_noex h⟩

/-! ### slices -/
abbrev OO := Loc → Mem → Rs (Option Int)
structure DO (X : Cx) (g : Gm) (W : WX) (e : Option Expr) (m : OO) : Prop where
  po : PO X e (tD X.K g (fun _ _ (a b : Option Int) => b = a) W m)
theorem PO.imp {e : Option Expr} {t t' : TO} (h : PO X e t) (i : ∀ σ H Q, t' σ H Q → t σ H Q) : PO X e t' := ⟨fun pins s σ H Q I q => h.run pins s σ H Q I (i σ H Q q)⟩
def oNo : OO := fun _ M => .ok none M
def oSome (m : EE) : OO := fun δ M => (m δ M).bind fun d M => match d with
  | .int i => .ok (some i) M
  | _ => .no
theorem do_no : DO X g W none oNo := ⟨PO.imp po_none fun σ H Q ⟨ρ, δ, M, mr, sr, h⟩ => rOk.now h mr rfl⟩
theorem do_some (ha : DE X g W a ma) : DO X g W (some a) (oSome ma) := by
  refine ⟨PO.imp (po_some ha.pe) fun σ H Q h => tE_mono (tD_bind (R1 := RV X.K g) (R2 := fun _ _ (a b : Option Int) => b = a) (m := ma) h) fun v H1 ⟨ρ, δ, M, x, mr, sr, rv, h1⟩ => ?_⟩
  split at h1
  · rw [rv_int] at rv
    exact ⟨_, rv, rOk.now h1 mr rfl⟩
  · exact h1.elim
def cutD (ds : List D) (lo hi : Option Int) : List D := (ds.drop (HT.sIx ds.length 0 lo)).take (HT.sIx ds.length ds.length hi - HT.sIx ds.length 0 lo)
def sliceD (fz : Bool) (x : D) (lo hi : Option Int) (M : Mem) : Rs D := match x with
  | .tup ds => .ok (.tup (cutD ds lo hi)) M
  | x => match getS M x with
    | some ds => mkL fz (cutD ds lo hi) M
    | none => .no
def eSlice (fz : Bool) (m : EE) (l h : OO) : EE := fun δ M => (m δ M).bind fun x M1 => (l δ M1).bind fun lo M2 => (h δ M2).bind fun hi M3 => sliceD fz x lo hi M3
theorem RVs.cut {ds : List D} {vs : List V} {lo hi : Option Int} (r : RVs K g ρ H ds vs) : RVs K g ρ H (cutD ds lo hi) (cutV vs lo hi) := by
  unfold cutD cutV
  rw [r.length]
  exact (r.drop _).take _
def rSliceD (K : PySem.W.Frag) (g : Gm) (fz : Bool) : V → Option Int → Option Int → Hp → VK → Prop := fun x' lo hi H Q => ∃ ρ M x, MR K g ρ M H ∧ RV K g ρ H x x' ∧ pOk K g (RV K g) ρ M H (sliceD fz x lo hi M) Q
theorem sliceD_noex {fz : Bool} {x : D} {lo hi : Option Int} {M : Mem} {e : Exn} {M' : Mem} : sliceD fz x lo hi M ≠ .ex e M' := by
  unfold sliceD
  split
  · exact fun z => nomatch z
  · split
    · exact mkL_noex
    · exact fun z => nomatch z
theorem slR (fz : Bool) : SlR X (rSliceD X.K g fz) := by
  rintro pins s σ H x' v vl vu lo hi sl Q I rx hs pl pu ⟨ρ, M, x, mr, r1, h⟩
  unfold sliceD at h
  split at h
  · rename_i ds
    rw [rv_tup] at r1
    obtain ⟨p, vs, e1, s1, q1⟩ := r1
    refine sl_tupA pins s σ H x' v vl vu lo hi sl Q I rx hs pl pu ⟨p, vs, e1, SqT.of s1, fun ⟨z1, z2⟩ => ?_, fun _ q hq => tup_ok mr hq q1.cut h⟩
    have : cutD ds lo hi = ds := by
      unfold cutD
      rw [q1.length] at z1 z2
      rw [z1, z2]
      simp
    rw [this] at h
    exact h.now mr (by rw [rv_tup]; exact ⟨p, vs, rfl, s1, q1⟩)
  · split at h
    · rename_i ds e
      obtain ⟨p, vs, e1, s1, q1⟩ := getS_ok mr e r1
      obtain ⟨T, id, k1, k2, k3⟩ := sl_list pins s σ H x' v vl vu lo hi sl (qFz Q) I rx hs pl pu ⟨p, vs, e1, s1, fun q hq => mkL_ok mr hq q1.cut h⟩
      exact ⟨T, id, k1, k2, thn k3 fun _ _ z => ep_fz z⟩
    · exact h.elim
theorem de_slice (fz : Bool) {lo hi : Option Expr} {ml mh : OO} {p2 : Pos} (ha : DE X g W a ma) (hl : DO X g W lo ml) (hh : DO X g W hi mh) : DE X g W (.Subscript a (.Slice lo hi none p2) pos) (eSlice fz ma ml mh) := by
  refine ⟨PE.imp (pe_slice (slR (g := g) fz) ha.pe hl.po hh.po) fun σ H Q h => tE_mono (tD_bind (R1 := RV X.K g) (R2 := RV X.K g) (m := ma) h) fun v H1 ⟨ρ, δ, M, x, mr, sr, rv, h1⟩ => ?_⟩
  have h2 := tD_then (R1 := fun _ _ (a b : Option Int) => b = a) (δ := δ) (m := ml) (f := fun lo δ M2 => (mh δ M2).bind fun hi M3 => sliceD fz x lo hi M3) mr sr h1
  obtain ⟨ρ2, δ2, M2, m2, s2, h2⟩ := h2
  refine ⟨ρ2, δ2, M2, m2, s2, ?_⟩
  cases e' : ml δ2 M2 with
  | ex z M3 => simp only [e'] at h2; exact h2
  | no => simp only [e'] at h2; exact h2
  | ok y M3 =>
    simp only [e'] at h2
    intro ρ3 u H3 ext3 m3 r3
    obtain ⟨ρ4, M4, y4, ext4, m4, s4, r4, h4⟩ := h2 ρ3 u H3 ext3 m3 r3
    subst r4
    have h5 := tD_then (R1 := fun _ _ (a b : Option Int) => b = a) (δ := δ) (m := mh) (f := fun hi _ M3 => sliceD fz x u hi M3) m4 s4 h4
    obtain ⟨ρ5, δ5, M5, m5, s5, h5⟩ := h5
    refine ⟨ρ5, δ5, M5, m5, s5, ?_⟩
    cases e5 : mh δ5 M5 with
    | ex z M6 => simp only [e5] at h5; exact h5
    | no => simp only [e5] at h5; exact h5
    | ok y5 M6 =>
      simp only [e5] at h5
      intro ρ6 u6 H6 ext6 m6 r6
      obtain ⟨ρ7, M7, y7, ext7, m7, s7, r7, h7⟩ := h5 ρ6 u6 H6 ext6 m6 r6
      subst r7
      exact ⟨ρ7, M7, x, m7, ext7.rv (ext4.rv rv), h7.plain fun _ _ => sliceD_noex⟩
end
end
end Dl

set_option Elab.async false
set_option linter.all false
set_option autoImplicit false
set_option maxRecDepth 100000
set_option maxHeartbeats 4000000
/-! The D-layer: statements, targets, loops, list comprehensions. -/
namespace Dl
noncomputable section
open PySem PySem.Spec L2

def Rs.stm {α : Type} (r : Rs α) (δ : Loc) (k : α → Mem → Rt) : Rt := match r with
  | .ok a M => k a M
  | .ex x M => .ex x δ M
  | .no => .no
@[simp] theorem Rs.stm_ok {α : Type} (a : α) (M : Mem) (δ : Loc) (k : α → Mem → Rt) : (Rs.ok a M).stm δ k = k a M := rfl
@[simp] theorem Rs.stm_ex {α : Type} (x : Exn) (M : Mem) (δ : Loc) (k : α → Mem → Rt) : (Rs.ex x M : Rs α).stm δ k = .ex x δ M := rfl
@[simp] theorem Rs.stm_no {α : Type} (δ : Loc) (k : α → Mem → Rt) : (Rs.no : Rs α).stm δ k = .no := rfl
section
variable {X : Cx} {g : Gm} {W : WX} {K : PySem.W.Frag} {σ : L2.St} {H : Hp} {ρ ρ' : List Addr} {M M' : Mem} {H' : Hp} {a b c : Expr} {ma mb mc : EE} {pos : Pos} {δ : Loc}

theorem sOk.at {r : Rt} {D : Ends} (h : sOk K g W ρ M H r D) (e : Ext ρ M H ρ' M' H') (l : ρ.length = M.length) (l' : ρ'.length = M'.length) : sOk K g W ρ' M' H' r D := by
  cases r with
  | nx d M2 => exact fun ρ2 v H2 x m r => h ρ2 v H2 (e.trans x l' l) m r
  | bk d M2 => exact fun ρ2 v H2 x m r => h ρ2 v H2 (e.trans x l' l) m r
  | ct d M2 => exact fun ρ2 v H2 x m r => h ρ2 v H2 (e.trans x l' l) m r
  | rt d M2 => exact fun ρ2 v H2 x m r => h ρ2 v H2 (e.trans x l' l) m r
  | ex x d M2 => exact fun ρ2 c dx σ' H2 x m r => h ρ2 c dx σ' H2 (e.trans x l' l) m r
  | no => exact h
/-- an expression, then a statement's rest -/
theorem tD_stm {α β : Type} {R : List Addr → Hp → α → β → Prop} {m : Loc → Mem → Rs α} {k : α → Mem → Rt} {D : Ends} (mr : MR K g ρ M H) (sr : SR K g ρ H δ σ) (h : sOk K g W ρ M H ((m δ M).stm δ k) D) :
    tD K g R W m σ H fun v H1 => ∃ ρ1 M1 x, Ext ρ M H ρ1 M1 H1 ∧ MR K g ρ1 M1 H1 ∧ SR K g ρ1 H1 δ σ ∧ R ρ1 H1 x v ∧ sOk K g W ρ1 M1 H1 (k x M1) D := by
  refine ⟨ρ, δ, M, mr, sr, ?_⟩
  cases e : m δ M with
  | ok a M' =>
    simp only [e, Rs.stm_ok] at h
    exact fun ρ' v H' x mr' r => ⟨ρ', M', a, x, mr', x.sr sr, r, h.at x mr.len mr'.len⟩
  | ex x M' =>
    simp only [e, Rs.stm_ex] at h
    exact fun ρ' cls dx H' x' mr' r => h ρ' cls dx σ H' x' mr' (x'.sr sr) r
  | no =>
    simp only [e, Rs.stm_no] at h
    exact h
theorem tD_mono {α β : Type} {R : List Addr → Hp → α → β → Prop} {m : Loc → Mem → Rs α} {Q Q' : β → Hp → Prop} (h : tD K g R W m σ H Q) (i : ∀ v H, Q v H → Q' v H) : tD K g R W m σ H Q' := by
  obtain ⟨ρ, δ, M, mr, sr, h⟩ := h
  refine ⟨ρ, δ, M, mr, sr, ?_⟩
  cases e : m δ M with
  | ok x M1 => simp only [e] at h; exact fun ρ' v H' ext mr' rv => i _ _ (h ρ' v H' ext mr' rv)
  | ex z M1 => simp only [e] at h; exact h
  | no => simp only [e] at h; exact h

/-! ### blocks and small statements -/
def sNx : SS := fun δ M => .nx δ M
def sSeq (s t : SS) : SS := fun δ M => match s δ M with
  | .nx δ' M' => t δ' M'
  | r => r
variable {st : Stmt} {rest : List Stmt} {s t : SS}
theorem dss_nil : DSs X g W [] sNx := ⟨PSs.imp pss_nil fun D σ H ⟨ρ, δ, M, mr, sr, h⟩ => h ρ σ H .refl mr sr⟩
theorem dss_one (h : DS X g W st s) : DSs X g W [st] s := ⟨pss_one h.ps⟩
theorem dss_cons (h : DS X g W st s) (hr : DSs X g W rest t) : DSs X g W (st :: rest) (sSeq s t) := by
  refine ⟨PSs.imp (pss_cons h.ps hr.pss) fun D σ H ⟨ρ, δ, M, mr, sr, h⟩ => ⟨ρ, δ, M, mr, sr, ?_⟩⟩
  unfold sSeq at h
  cases e : s δ M with
  | nx δ' M' =>
    simp only [e] at h
    exact fun ρ' σ' H' x mr' sr' => ⟨ρ', δ', M', mr', sr', h.at x mr.len mr'.len⟩
  | bk d M2 => simp only [e] at h; exact h
  | ct d M2 => simp only [e] at h; exact h
  | rt d M2 => simp only [e] at h; exact h
  | ex x d M2 => simp only [e] at h; exact h
  | no => simp only [e] at h; exact h
def sBk : SS := fun δ M => .bk δ M
def sCt : SS := fun δ M => .ct δ M
theorem ds_pass : DS X g W (.Pass pos) sNx := ⟨PS.imp ps_pass fun D σ H ⟨ρ, δ, M, mr, sr, h⟩ => h ρ σ H .refl mr sr⟩
theorem ds_break : DS X g W (.Break pos) sBk := ⟨PS.imp ps_break fun D σ H ⟨ρ, δ, M, mr, sr, h⟩ => h ρ σ H .refl mr sr⟩
theorem ds_continue : DS X g W (.Continue pos) sCt := ⟨PS.imp ps_continue fun D σ H ⟨ρ, δ, M, mr, sr, h⟩ => h ρ σ H .refl mr sr⟩
def sNo : SS := fun _ _ => .no
theorem ds_never : DS X g W st sNo := ⟨PS.imp ps_never fun D σ H ⟨ρ, δ, M, mr, sr, h⟩ => h⟩
def sExpr (m : EE) : SS := fun δ M => (m δ M).stm δ fun _ M' => .nx δ M'
theorem ds_expr (he : DE X g W a ma) (hs : swapsWith a none pos.line X.env = pure false := by rfl) : DS X g W (.Expr a pos) (sExpr ma) := by
  refine ⟨PS.imp (ps_expr he.pe hs) fun D σ H ⟨ρ, δ, M, mr, sr, h⟩ => tD_mono (tD_stm (R := RV X.K g) (k := fun _ M' => .nx δ M') mr sr h) fun v H1 ⟨ρ1, M1, x, e1, m1, s1, r1, h1⟩ => h1 ρ1 σ H1 .refl m1 s1⟩
def sRet (m : EE) : SS := fun δ M => (m δ M).stm δ fun d M' => .rt d M'
theorem ds_ret (he : DE X g W a ma) : DS X g W (.Return (some a) pos) (sRet ma) := by
  refine ⟨PS.imp (ps_ret he.pe) fun D σ H ⟨ρ, δ, M, mr, sr, h⟩ => tD_mono (tD_stm (R := RV X.K g) (k := fun d M' => .rt d M') mr sr h) fun v H1 ⟨ρ1, M1, x, e1, m1, s1, r1, h1⟩ => h1 ρ1 v H1 .refl m1 r1⟩
def sRetN : SS := fun _ M => .rt .non M
theorem ds_retN : DS X g W (.Return none pos) sRetN := ⟨PS.imp ps_retN fun D σ H ⟨ρ, δ, M, mr, sr, h⟩ => h ρ .non H .refl mr (by rw [rv_non])⟩
def sIf (c : TT') (s t : SS) : SS := fun δ M => (c δ M).stm δ fun b M' => if b then s δ M' else t δ M'
theorem ds_if {tc : TT'} {ys ns : List Stmt} (hc : DT X g W c tc) (ha : DSs X g W ys s) (hb : DSs X g W ns t) : DS X g W (.If c ys ns pos) (sIf tc s t) := by
  refine ⟨PS.imp (ps_if hc.pt ha.pss hb.pss) fun D σ H ⟨ρ, δ, M, mr, sr, h⟩ => tD_mono (tD_stm (R := fun _ _ (a b : Bool) => b = a) (k := fun b M' => if b then s δ M' else t δ M') mr sr h) fun v H1 ⟨ρ1, M1, x, e1, m1, s1, r1, h1⟩ => ?_⟩
  subst r1
  cases v with
  | true => rw [if_pos rfl]; exact ⟨ρ1, δ, M1, m1, s1, h1⟩
  | false => rw [if_neg Bool.false_ne_true]; exact ⟨ρ1, δ, M1, m1, s1, h1⟩

/-! ### targets -/
def gOk (K : PySem.W.Frag) (g : Gm) (ρ : List Addr) (M : Mem) (σ : L2.St) (H : Hp) (vs : List Nat) (r : Rs Loc) (Q : L2.St → Hp → Prop) : Prop :=
  match r with
  | .ok δ M' => ∀ ρ' σ' H', Ext ρ M H ρ' M' H' → MR K g ρ' M' H' → SR K g ρ' H' δ σ' → wipe σ' vs = wipe σ vs → Q σ' H'
  | .ex _ _ => False
  | .no => False
def tG (K : PySem.W.Frag) (g : Gm) (vs : List Nat) (m : GG) : TG := fun v σ H Q => ∃ ρ δ M d, MR K g ρ M H ∧ SR K g ρ H δ σ ∧ RV K g ρ H d v ∧ gOk K g ρ M σ H vs (m d δ M) Q
def tGs (K : PySem.W.Frag) (g : Gm) (vs : List Nat) (m : List D → Loc → Mem → Rs Loc) : TGs := fun v σ H Q => ∃ ρ δ M d, MR K g ρ M H ∧ SR K g ρ H δ σ ∧ RVs K g ρ H d v ∧ gOk K g ρ M σ H vs (m d δ M) Q
/-- vs: the slots that it writes -/
structure DG (X : Cx) (g : Gm) (e : Expr) (vs : List Nat) (m : GG) : Prop where
  pg : PG X e (tG X.K g vs m)
structure DGs (X : Cx) (g : Gm) (es : List Expr) (vs : List Nat) (m : List D → Loc → Mem → Rs Loc) : Prop where
  pgs : PGs X es (tGs X.K g vs m)
/-- nothing is wished of errors -/
abbrev WF : WX := fun _ _ _ _ => False
theorem PG.imp {e : Expr} {t t' : TG} (h : PG X e t) (i : ∀ v σ H Q, t' v σ H Q → t v σ H Q) : PG X e t' := ⟨fun pins s σ H v u Q I r q => h.run pins s σ H v u Q I r (i v σ H Q q)⟩
theorem PGs.imp {e : List Expr} {t t' : TGs} (h : PGs X e t) (i : ∀ v σ H Q, t' v σ H Q → t v σ H Q) : PGs X e t' := ⟨fun pins s σ H v u Q I r q => h.run pins s σ H v u Q I r (i v σ H Q q)⟩
theorem wipe_set_self (σ : L2.St) (i : Nat) (v : V) : wipe (σ.set i (some v)) [i] = wipe σ [i] := by
  simp [wipe]
theorem wipe_append (σ : L2.St) : ∀ vs ws : List Nat, wipe σ (vs ++ ws) = wipe (wipe σ ws) vs
  | [], _ => rfl
  | v :: vs, ws => by show (wipe σ (vs ++ ws)).set v none = (wipe (wipe σ ws) vs).set v none; rw [wipe_append σ vs ws]
theorem wipe_set_comm (σ : L2.St) (i : Nat) : ∀ vs : List Nat, wipe (σ.set i none) vs = (wipe σ vs).set i none
  | [] => rfl
  | v :: vs => by
    show (wipe (σ.set i none) vs).set v none = ((wipe σ vs).set v none).set i none
    rw [wipe_set_comm σ i vs]
    by_cases h : i = v
    · subst h; rfl
    · rw [List.set_comm _ _ h]
theorem wipe_comm (σ : L2.St) (ws : List Nat) : ∀ vs : List Nat, wipe (wipe σ ws) vs = wipe (wipe σ vs) ws
  | [] => rfl
  | v :: vs => by
    show (wipe (wipe σ ws) vs).set v none = wipe ((wipe σ vs).set v none) ws
    rw [wipe_comm σ ws vs, wipe_set_comm]
theorem gOk.at {vs : List Nat} {r : Rs Loc} {Q : L2.St → Hp → Prop} (h : gOk K g ρ M σ H vs r Q) (e : Ext ρ M H ρ' M' H') (l : ρ.length = M.length) (l' : ρ'.length = M'.length) : gOk K g ρ' M' σ H' vs r Q := by
  cases r with
  | ok d M2 => exact fun ρ2 v H2 x m r => h ρ2 v H2 (e.trans x l' l) m r
  | ex x M2 => exact h
  | no => exact h
def gN (i : Nat) : GG := fun d δ M => .ok (δ.set i (some d)) M
theorem dg_name (i : Nat) {x : Str} (hN : X.N.Nodup) (hi : X.N[i]? = some x := by rfl) (hx : L2.Loc X.env.scope x := by first | exact Or.inl rfl | exact Or.inr rfl) (hf : X.fn x = true ∨ X.env.scope.names.lookup x = some .local := by first | exact .inl rfl | exact .inr rfl) : DG X g (.Name x pos) [i] (gN i) :=
  ⟨PG.imp (pg_name hN hi hx hf) fun v σ H Q ⟨ρ, δ, M, d, mr, sr, rv, h⟩ => h ρ _ H .refl mr (sr.set i rv) (wipe_set_self σ i v)⟩
def gsNil : List D → Loc → Mem → Rs Loc := fun ds δ M => match ds with
  | [] => .ok δ M
  | _ => .no
def gsCons (m : GG) (ms : List D → Loc → Mem → Rs Loc) : List D → Loc → Mem → Rs Loc := fun ds δ M => match ds with
  | d :: ds => (m d δ M).bind fun δ' M' => ms ds δ' M'
  | [] => .no
theorem dgs_nil : DGs X g [] [] gsNil := by
  refine ⟨PGs.imp pgs_nil fun v σ H Q ⟨ρ, δ, M, d, mr, sr, rv, h⟩ => ?_⟩
  cases d with
  | nil => rw [rvs_nil] at rv; exact ⟨rv, h ρ _ H .refl mr sr rfl⟩
  | cons d ds => exact h.elim
theorem dgs_cons {e : Expr} {es : List Expr} {vs ws : List Nat} {m : GG} {ms : List D → Loc → Mem → Rs Loc} (h1 : DG X g e vs m) (h2 : DGs X g es ws ms)
    (hs : (assignEach (e :: es) X.env).map (·.2) = assign e X.env :: (assignEach es X.env).map (·.2) := by rfl) : DGs X g (e :: es) (vs ++ ws) (gsCons m ms) := by
  refine ⟨PGs.imp (pgs_cons h1.pg h2.pgs hs) fun v σ H Q ⟨ρ, δ, M, d, mr, sr, rv, h⟩ => ?_⟩
  cases d with
  | nil => exact h.elim
  | cons d ds =>
    rw [rvs_cons] at rv
    obtain ⟨v1, vr, ev, r1, r2⟩ := rv
    refine ⟨v1, vr, ev, ρ, δ, M, d, mr, sr, r1, ?_⟩
    unfold gsCons at h
    cases e1 : m d δ M with
    | no => simp only [e1] at h; exact h
    | ex x M1 => simp only [e1] at h; exact h
    | ok δ1 M1 =>
      simp only [e1, Rs.bind_ok] at h
      intro ρ1 σ1 H1 x1 m1 s1 w1
      refine ⟨ρ1, δ1, M1, ds, m1, s1, x1.rvs r2, ?_⟩
      have h' := h.at x1 mr.len m1.len
      cases e2 : ms ds δ1 M1 with
      | no => rw [e2] at h'; exact h'
      | ex x M2 => rw [e2] at h'; exact h'
      | ok δ2 M2 =>
        rw [e2] at h'
        intro ρ2 σ2 H2 x2 m2 s2 w2
        refine h' ρ2 σ2 H2 x2 m2 s2 ?_
        rw [wipe_append, w2, wipe_comm, w1, wipe_append, wipe_comm]
/-- (a, b, ..) = a tuple -/
def gTupD (gs : List D → Loc → Mem → Rs Loc) : GG := fun d δ M => match d with
  | .tup ds => gs ds δ M
  | _ => .no
theorem gs_len {es : List Expr} {vs : List Nat} {ms : List D → Loc → Mem → Rs Loc} {n : Nat} (hl : ∀ ds δ M δ' M', ms ds δ M = .ok δ' M' → ds.length = n) {ds : List D} {Q : L2.St → Hp → Prop} (h : gOk K g ρ M σ H vs (ms ds δ M) Q) : ds.length = n := by
  cases e : ms ds δ M with
  | ok δ' M' => exact hl _ _ _ _ _ e
  | ex x M' => rw [e] at h; exact h.elim
  | no => rw [e] at h; exact h.elim
theorem dg_tup {es : List Expr} {k : Nat} {vs : List Nat} {ms : List D → Loc → Mem → Rs Loc} {n : Nat} (hc : X.calm = true) (h : DGs X g es vs ms) (hl : ∀ ds δ M δ' M', ms ds δ M = .ok δ' M' → ds.length = n)
    (hn : (assignEach es X.env).length = n := by rfl) (hst : (assignEach es X.env).findIdx? (·.1) = none := by rfl) : DG X g (.Tuple es k pos) vs (gTupD ms) := by
  refine ⟨PG.imp (pg_tup hc h.pgs hn hst) fun v σ H Q ⟨ρ, δ, M, d, mr, sr, rv, h⟩ => ?_⟩
  unfold gTupD at h
  split at h
  · rename_i ds
    rw [rv_tup] at rv
    obtain ⟨p, vs, e1, s1, q1⟩ := rv
    exact ⟨p, vs, e1, SqT.of s1, by rw [q1.length]; exact gs_len (es := es) hl h, ρ, δ, M, ds, mr, sr, q1, h⟩
  · exact h.elim
theorem gl_nil : ∀ (ds : List D) (δ : Loc) (M : Mem) (δ' : Loc) (M' : Mem), gsNil ds δ M = .ok δ' M' → ds.length = 0 := by
  intro ds δ M δ' M' h
  cases ds with
  | nil => rfl
  | cons d ds => cases h
theorem gl_cons {m : GG} {ms : List D → Loc → Mem → Rs Loc} {n : Nat} (hl : ∀ ds δ M δ' M', ms ds δ M = .ok δ' M' → ds.length = n) : ∀ (ds : List D) (δ : Loc) (M : Mem) (δ' : Loc) (M' : Mem), gsCons m ms ds δ M = .ok δ' M' → ds.length = n + 1 := by
  intro ds δ M δ' M' h
  cases ds with
  | nil => cases h
  | cons d ds =>
    unfold gsCons at h
    cases e : m d δ M with
    | ok δ1 M1 => simp only [e, Rs.bind_ok] at h; rw [List.length_cons, hl _ _ _ _ _ h]
    | ex x M1 => simp only [e, Rs.bind_ex] at h; cases h
    | no => simp only [e, Rs.bind_no] at h; cases h

/-! ### stores into lists and dicts -/
def putD {κ : Type} [DecidableEq κ] (kvs : List (κ × D)) (k : κ) (v : D) : List (κ × D) :=
  if (kvs.any fun kv => decide (kv.1 = k)) = true then kvs.map (fun kv => if kv.1 = k then (kv.1, v) else kv) else kvs ++ [(k, v)]
def setD (o i v : D) (M : Mem) : Option Mem := match o with
  | .ref n => match M[n]? with
    | some (.lst ds) => match i with
      | .int k => (ixN ds.length k).map fun j => M.set n (.lst (ds.set j v))
      | _ => none
    | some (.dK kvs) => match keyOf i with
      | some k => if decide (kvs.length < sizeLine) then some (M.set n (.dK (putD kvs k v))) else none
      | none => none
    | some (.dT kvs) => match tkeyOf i with
      | some k => if decide (kvs.length < sizeLine) then some (M.set n (.dT (putD kvs k v))) else none
      | none => none
    | _ => none
  | _ => none
theorem kvr_any {κ : Type} [DecidableEq κ] {kvs : List (κ × D)} {kvs' : List (κ × V)} (k : κ) (h : KVr K g ρ H kvs kvs') : (kvs.any fun kv => decide (kv.1 = k)) = (kvs'.any fun kv => decide (kv.1 = k)) := by
  have e : ∀ {β : Type} (l : List (κ × β)), (l.any fun kv => decide (kv.1 = k)) = (l.map (·.1)).any fun x => decide (x = k) := fun l => by rw [List.any_map]; rfl
  rw [e, e, h.1]
theorem kvr_map {κ : Type} [DecidableEq κ] : ∀ {kvs : List (κ × D)} {kvs' : List (κ × V)} (k : κ) {d : D} {v : V}, KVr K g ρ H kvs kvs' → RV K g ρ H d v →
    KVr K g ρ H (kvs.map fun kv => if kv.1 = k then (kv.1, d) else kv) (kvs'.map fun kv => if kv.1 = k then (kv.1, v) else kv)
  | [], kvs', k, d, v, ⟨h1, h2⟩, _ => by
    have : kvs' = [] := by simpa using h1.symm
    subst this
    exact ⟨rfl, by rw [List.map_nil, List.map_nil, rvs_nil]; rfl⟩
  | (x, d0) :: kvs, [], k, d, v, ⟨h1, _⟩, _ => by simp at h1
  | (x, d0) :: kvs, (y, v0) :: kvs', k, d, v, ⟨h1, h2⟩, r => by
    simp only [List.map_cons, List.cons.injEq] at h1
    rw [List.map_cons, List.map_cons, rvs_cons] at h2
    obtain ⟨v1, r0, e, h3, h4⟩ := h2
    simp only [List.cons.injEq] at e
    obtain ⟨e1, e2⟩ := e
    obtain ⟨h5, h6⟩ := h1
    subst h5 e1 e2
    obtain ⟨q1, q2⟩ := kvr_map k (d := d) (v := v) ⟨h6, h4⟩ r
    by_cases hk : x = k
    · simp only [List.map_cons, if_pos hk]
      exact ⟨by simp only [List.map_cons]; rw [q1], by simp only [List.map_cons]; rw [rvs_cons]; exact ⟨_, _, rfl, r, q2⟩⟩
    · simp only [List.map_cons, if_neg hk]
      exact ⟨by simp only [List.map_cons]; rw [q1], by simp only [List.map_cons]; rw [rvs_cons]; exact ⟨_, _, rfl, h3, q2⟩⟩
theorem kvr_put {κ : Type} [DecidableEq κ] {kvs : List (κ × D)} {kvs' : List (κ × V)} (k : κ) {d : D} {v : V} (h : KVr K g ρ H kvs kvs') (r : RV K g ρ H d v) : KVr K g ρ H (putD kvs k d) (putK kvs' k v) := by
  unfold putD putK
  rw [kvr_any k h]
  split
  · exact kvr_map k h r
  · exact ⟨by simp [h.1], by rw [List.map_append, List.map_append]; exact h.2.append (RVs.one r)⟩
theorem KVr.length {κ : Type} {kvs : List (κ × D)} {kvs' : List (κ × V)} (h : KVr K g ρ H kvs kvs') : kvs'.length = kvs.length := by
  have := congrArg List.length h.1
  simpa using this.symm
theorem KVr.mono {κ : Type} {kvs : List (κ × D)} {kvs' : List (κ × V)} (k : Keep H H') (p : Pre ρ ρ') (h : KVr K g ρ H kvs kvs') : KVr K g ρ' H' kvs kvs' := ⟨h.1, h.2.mono k p⟩
/-- a store, by values -/
def rSetA (K : PySem.W.Frag) (g : Gm) : TSet := fun o' i' v' H Q => ∃ ρ M o i v M', MR K g ρ M H ∧ RV K g ρ H o o' ∧ RV K g ρ H i i' ∧ RV K g ρ H v v' ∧ setD o i v M = some M' ∧ ∀ H', Ext ρ M H ρ M' H' → MR K g ρ M' H' → Q H'
theorem set_any (hu : X.A.units + 1 < cLine) : PSet X (rSetA X.K g) := by
  rintro pins s σ H o' i' v' ov iv u Q I ro ri rv ⟨ρ, M, o, i, v, M', mr, r1, r2, r3, e, q⟩
  cases o with
  | ref n =>
    simp only [setD] at e
    rw [rv_ref] at r1
    obtain ⟨p, e1, e2⟩ := r1
    split at e
    · rename_i ds h
      obtain ⟨vs, h1, h2⟩ := mr.obj _ _ _ e1 h
      split at e
      · rename_i k
        rw [rv_int] at r2
        cases ej : ixN ds.length k with
        | none => rw [ej] at e; cases e
        | some j =>
          rw [ej] at e
          cases e
          have lv : Live M n := ⟨_, h, fun z => nomatch z⟩
          have x : Ext ρ M H ρ (M.set n (.lst (ds.set j v))) (upd H p (.lst (vs.set j v'))) := ext_write mr e1 lv
          exact set_list pins s σ H o' i' v' ov iv u Q I ro ri rv ⟨p, vs, k, j, e2, r2, h1, by rw [h2.length]; exact ej, q _ x (mr_write mr e1 lv ⟨_, upd_same, (x.rvs h2).set j (x.rv r3)⟩)⟩
      · cases e
    · rename_i kvs h
      obtain ⟨kvs', h1, h2⟩ := mr.obj _ _ _ e1 h
      split at e
      · rename_i k ek
        by_cases hz : decide (kvs.length < sizeLine) = true
        · rw [if_pos hz] at e
          cases e
          have := keyOf_ok r2 ek
          subst this
          have lv : Live M n := ⟨_, h, fun z => nomatch z⟩
          have x : Ext ρ M H ρ (M.set n (.dK (putD kvs k v))) (upd H p (.dK (putK kvs' k v'))) := ext_write mr e1 lv
          refine set_dict hu pins s σ H o' _ v' ov iv u Q I ro ri rv ⟨p, _, e2, DPut.k h1 (by rw [KVr.length h2]; simpa using hz), q _ x (mr_write mr e1 lv ⟨_, upd_same, kvr_put k (KVr.mono x.kp x.pre h2) (x.rv r3)⟩)⟩
        · rw [if_neg hz] at e
          cases e
      · cases e
    · rename_i kvs h
      obtain ⟨kvs', h1, h2⟩ := mr.obj _ _ _ e1 h
      split at e
      · rename_i k ek
        by_cases hz : decide (kvs.length < sizeLine) = true
        · rw [if_pos hz] at e
          cases e
          obtain ⟨b, e3, s3⟩ := tkeyOf_ok r2 ek
          subst e3
          have lv : Live M n := ⟨_, h, fun z => nomatch z⟩
          have x : Ext ρ M H ρ (M.set n (.dT (putD kvs k v))) (upd H p (.dT (putK kvs' k v'))) := ext_write mr e1 lv
          refine set_dict hu pins s σ H o' _ v' ov iv u Q I ro ri rv ⟨p, _, e2, DPut.t h1 s3 (by rw [KVr.length h2]; simpa using hz), q _ x (mr_write mr e1 lv ⟨_, upd_same, kvr_put k (KVr.mono x.kp x.pre h2) (x.rv r3)⟩)⟩
        · rw [if_neg hz] at e
          cases e
      · cases e
    · cases e
  | _ => cases e
def gSubD (mo mi : EE) : GG := fun d δ M => (mo δ M).bind fun o M1 => (mi δ M1).bind fun i M2 => match setD o i d M2 with
  | some M3 => .ok δ M3
  | none => .no
theorem dg_sub (hu : X.A.units + 1 < cLine) {o i : Expr} {mo mi : EE} (ho : DE X g WF o mo) (hi : DE X g WF i mi)
    (ha : ∀ v, assign (.Subscript o i pos) X.env v = (do
      let ov ← holding [v] (eval o X.env)
      let iv ← holding [v, ov] (eval i X.env)
      standAt pos
      holding [v, ov, iv] (setItem ov iv v)
      release [v, ov, iv] []) := by intro _; rfl) : DG X g (.Subscript o i pos) [] (gSubD mo mi) := by
  refine ⟨PG.imp (pg_sub ho.pe hi.pe (set_any (g := g) hu) ha) fun v σ H Q ⟨ρ, δ, M, d, mr, sr, rv, h⟩ => ?_⟩
  refine ⟨ρ, δ, M, mr, sr, ?_⟩
  unfold gSubD at h
  cases e1 : mo δ M with
  | no => simp only [e1] at h; exact h
  | ex x M1 => simp only [e1] at h; exact h.elim
  | ok od M1 =>
    simp only [e1, Rs.bind_ok] at h
    intro ρ1 ov H1 x1 m1 r1
    have h' := h.at x1 mr.len m1.len
    refine ⟨ρ1, δ, M1, m1, x1.sr sr, ?_⟩
    cases e2 : mi δ M1 with
    | no => simp only [e2] at h'; exact h'
    | ex x M2 => simp only [e2] at h'; exact h'.elim
    | ok id M2 =>
      simp only [e2, Rs.bind_ok] at h'
      intro ρ2 iv H2 x2 m2 r2
      have h2 := h'.at x2 m1.len m2.len
      cases e3 : setD od id d M2 with
      | none => rw [e3] at h2; exact h2.elim
      | some M3 =>
        rw [e3] at h2
        exact ⟨ρ2, M2, od, id, d, M3, m2, x2.rv r1, r2, x2.rv (x1.rv rv), e3, fun H' x m => h2 ρ2 σ H' x m (x.sr (x2.sr (x1.sr sr))) rfl⟩
/-- target = value -/
def nxO (r : Rs Loc) : Rt := match r with
  | .ok δ M => .nx δ M
  | _ => .no
@[simp] theorem nxO_ok (δ : Loc) (M : Mem) : nxO (.ok δ M) = .nx δ M := rfl
def sAsg (m : EE) (gm : GG) : SS := fun δ M => (m δ M).stm δ fun d M1 => nxO (gm d δ M1)
theorem asg_read {vs : List Nat} {gm : GG} {D : Ends} (h : tS X.K g W (sAsg ma gm) D σ H) : tE X.K g W ma σ H fun x H1 => tG X.K g vs gm x σ H1 D.nx := by
  obtain ⟨ρ, δ, M, mr, sr, h⟩ := h
  refine tD_mono (tD_stm (R := RV X.K g) (k := fun d M1 => nxO (gm d δ M1)) mr sr h) fun v H1 ⟨ρ1, M1, x, e1, m1, s1, r1, h1⟩ => ⟨ρ1, δ, M1, x, m1, s1, r1, ?_⟩
  cases e2 : gm x δ M1 with
  | no => rw [e2] at h1; exact h1
  | ex y M2 => rw [e2] at h1; exact h1
  | ok δ' M2 =>
    rw [e2] at h1
    exact fun ρ' σ' H' x' m' s' _ => h1 ρ' σ' H' x' m' s'
theorem ds_asg {tg : Expr} {vs : List Nat} {gm : GG} (he : DE X g W a ma) (hg : DG X g tg vs gm) (hs : swapsWithSole [tg] a pos.line X.env = pure false := by rfl) (hw : swappedStores [tg] a X.env = pure none := by rfl)
    (h1 : (assignEach [tg] X.env).map (·.2) = [assign tg X.env] := by rfl) : DS X g W (.Assign [tg] a pos) (sAsg ma gm) :=
  ⟨PS.imp (ps_asg he.pe hg.pg hs hw h1) fun D σ H h => asg_read h⟩
theorem ds_set (i : Nat) {x : Str} {pos' : Pos} (hN : X.N.Nodup) (he : DE X g W a ma) (hi : X.N[i]? = some x := by rfl) (hx : L2.Loc X.env.scope x := by first | exact Or.inl rfl | exact Or.inr rfl) (hs : swapsWith a (some (.Name x pos')) pos.line X.env = pure false := by rfl)
    (hf : X.fn x = true ∨ X.env.scope.names.lookup x = some .local := by first | exact .inl rfl | exact .inr rfl) : DS X g W (.Assign [.Name x pos'] a pos) (sAsg ma (gN i)) :=
  ⟨PS.imp (ps_set hN hi hx he.pe hs hf) fun D σ H h => tD_mono (asg_read (vs := [i]) h) fun v H1 ⟨ρ, δ, M, d, mr, sr, rv, h⟩ => h ρ _ H1 .refl mr (sr.set i rv) (wipe_set_self σ i v)⟩
/-- a, b = x, y of plain locals -/
def sPar (i j : Nat) (as : AA) : SS := fun δ M => (as δ M).stm δ fun ds M1 => match ds with
  | [d, e] => .nx ((δ.set i (some d)).set j (some e)) M1
  | _ => .no
theorem ds_par (i j : Nat) {x y : Str} {as : AA} {px py pt : Pos} {kt k2 : Nat} {pt2 : Pos} (hc : X.calm = true) (hN : X.N.Nodup) (ha : DA X g W [a, b] as) (hij : i ≠ j := by decide) (hi : X.N[i]? = some x := by rfl) (hj : X.N[j]? = some y := by rfl)
    (hx : X.env.scope.names.lookup x = some .local := by rfl) (hy : X.env.scope.names.lookup y = some .local := by rfl)
    (hw : swappedStores [.Tuple [.Name x px, .Name y py] kt pt] (.Tuple [a, b] k2 pt2) X.env = pure (some [x, y]) := by rfl)
    (hs : swapsWithSole [.Tuple [.Name x px, .Name y py] kt pt] (.Tuple [a, b] k2 pt2) pos.line X.env = pure false := by rfl) :
    DS X g W (.Assign [.Tuple [.Name x px, .Name y py] kt pt] (.Tuple [a, b] k2 pt2) pos) (sPar i j as) := by
  refine ⟨PS.imp (ps_par hc hN hi hj hij hx hy ha.pa hw hs) fun D σ H ⟨ρ, δ, M, mr, sr, h⟩ => tD_mono (tD_stm (R := RVs X.K g) (k := fun ds M1 => match ds with | [d, e] => .nx ((δ.set i (some d)).set j (some e)) M1 | _ => .no) mr sr h) fun v H1 ⟨ρ1, M1, ds, e1, m1, s1, r1, h1⟩ => ?_⟩
  split at h1
  · rename_i d e
    rw [rvs_cons] at r1
    obtain ⟨v1, r, ev, q1, r1⟩ := r1
    rw [rvs_cons] at r1
    obtain ⟨v2, r, ev2, q2, r1⟩ := r1
    rw [rvs_nil] at r1
    subst r1 ev2 ev
    exact ⟨v1, v2, rfl, h1 ρ1 _ H1 .refl m1 ((s1.set i q1).set j q2)⟩
  · exact h1.elim
def sPar3 (i j l : Nat) (as : AA) : SS := fun δ M => (as δ M).stm δ fun ds M1 => match ds with
  | [d, e, f] => .nx (((δ.set i (some d)).set j (some e)).set l (some f)) M1
  | _ => .no
/-- name op= e -/
def sAug (i : Nat) (o : O2) (m : EE) : SS := fun δ M => match δ[i]? with
  | some (some x) => (m δ M).stm δ fun y M1 => (o x y M1).stm δ fun z M2 => .nx (δ.set i (some z)) M2
  | _ => .no
theorem ds_aug (i : Nat) {x : Str} {op : Operator} {o : O2} {pos' : Pos} (hN : X.N.Nodup) (ho : DOp X g (inplaceOp op) o) (hn : NoEx o) (he : DE X g W a ma) (hi : X.N[i]? = some x := by rfl) (hx : L2.Loc X.env.scope x := by first | exact Or.inl rfl | exact Or.inr rfl)
    (hf : X.fn x = true ∨ X.env.scope.names.lookup x = some .local := by first | exact .inl rfl | exact .inr rfl) : DS X g W (.AugAssign (.Name x pos') op a pos) (sAug i o ma) := by
  refine ⟨PS.imp (ps_aug hN hi hx he.pe (ti := rB X.K g o) ho hf) fun D σ H ⟨ρ, δ, M, mr, sr, h⟩ => ?_⟩
  unfold sAug at h
  split at h
  · rename_i x ex
    obtain ⟨v, ev, rv⟩ := sr.2 i x ex
    refine ⟨v, ev, tD_mono (tD_stm (R := RV X.K g) (k := fun y M1 => (o x y M1).stm δ fun z M2 => .nx (δ.set i (some z)) M2) mr sr h) fun u H1 ⟨ρ1, M1, y, e1, m1, s1, r1, h1⟩ => ⟨ρ1, M1, x, y, m1, e1.rv rv, r1, ?_⟩⟩
    cases e : o x y M1 with
    | no => rw [e] at h1; exact h1
    | ex z M2 => exact absurd e (hn _ _ _ _ _)
    | ok z M2 =>
      rw [e] at h1
      exact fun ρ' v' H' x' m' r' => h1 ρ' _ H' x' m' ((x'.sr s1).set i r')
  · exact h.elim
theorem dip_add : DOp X g (inplaceOp .Add) (iOp (fun _ _ => true) fun i j => .int (i + j)) := dop_int (rI_of iop_add) (fun _ _ _ => trivial) fun _ _ _ _ => by rw [rv_int]
theorem dip_sub : DOp X g (inplaceOp .Sub) (iOp (fun _ _ => true) fun i j => .int (i - j)) := dop_int (rI_of iop_sub) (fun _ _ _ => trivial) fun _ _ _ _ => by rw [rv_int]
/-- o[i] op= e, the items found by place (0 or more) or by key -/
def getI (x y : D) (M : Mem) : Option D := match dgetD M x y with
  | some o => o
  | none => match y with
    | .int i => if decide (0 ≤ i) then (getL M x).bind fun ds => ds[i.toNat]? else none
    | _ => none
def sAugS (mo mi : EE) (o : O2) (m : EE) : SS := fun δ M => (mo δ M).stm δ fun od M1 => (mi δ M1).stm δ fun i M2 => match getI od i M2 with
  | some x => (m δ M2).stm δ fun y M3 => (o x y M3).stm δ fun z M4 => match setD od i z M4 with
    | some M5 => .nx δ M5
    | none => .no
  | none => .no
def rGet (K : PySem.W.Frag) (g : Gm) : V → V → Hp → VK → Prop := fun o' i' H Q => ∃ ρ M o i d, MR K g ρ M H ∧ RV K g ρ H o o' ∧ RV K g ρ H i i' ∧ getI o i M = some d ∧ ∀ v, RV K g ρ H d v → Q v H
theorem get_any (hu : X.A.units + 1 < cLine) : PGet X (rGet X.K g) := by
  rintro pins s σ H o' i' ov iv Q I ro ri ⟨ρ, M, o, i, d, mr, r1, r2, e, q⟩
  unfold getI at e
  split at e
  · rename_i od eo
    obtain ⟨p, o2, e1, gt, rop⟩ := dget_ok mr r1 r2 eo
    subst e1 e
    cases ro
    cases o2 with
    | none => exact rop.elim
    | some w => exact d_getItem hu I gt ri fun w' s' I' rw' => ⟨w, H, I', rw', q w rop⟩
  · split at e
    · rename_i k _
      by_cases hz : decide (0 ≤ k) = true
      · rw [if_pos hz] at e
        cases el : getL M o with
        | none => rw [el] at e; cases e
        | some ds =>
          rw [el] at e
          have e : ds[k.toNat]? = some d := e
          obtain ⟨p, vs, e1, s1, q1⟩ := getL_ok mr el r1
          subst e1
          cases ro
          rw [rv_int] at r2
          subst r2
          obtain ⟨t, rfl⟩ := ri
          obtain ⟨z, its, n, r, hl, eo⟩ := rd_list I s1
          obtain ⟨w, ew, rw1⟩ := q1.get e
          obtain ⟨u, eu, ru⟩ := r.get ew
          have hk : 0 ≤ k := by simpa using hz
          have hs := sizeLine_eq
          have hlt : k.toNat < its.length := (List.getElem?_eq_some_iff.mp eu).1
          exact PySem.wpAny_getItem_list (l := p) (items := its.toArray) ⟨_, eo, rfl, n, rfl⟩ hk (by omega) (by simpa using eu) ⟨w, H, I, ru, q w rw1⟩
      · rw [if_neg hz] at e; cases e
    · cases e
theorem ds_augS (hu : X.A.units + 1 < cLine) {o i : Expr} {mo mi : EE} {op : Operator} {f : O2} {tpos : Pos} (hf : DOp X g (inplaceOp op) f) (hn : NoEx f) (ho : DE X g W o mo) (hi : DE X g W i mi) (he : DE X g W a ma)
    (ha : ∀ ov iv new, augStore i ov iv new = (do holding [new, ov, iv] (setItem ov iv new); release [new, ov, iv] []; pure .next) := by intros; rfl) : DS X g W (.AugAssign (.Subscript o i tpos) op a pos) (sAugS mo mi f ma) := by
  refine ⟨PS.imp (ps_augS ho.pe hi.pe (get_any (g := g) hu) he.pe (tip := rB X.K g f) hf (set_any (g := g) hu) ha) fun D σ H ⟨ρ, δ, M, mr, sr, h⟩ => ?_⟩
  refine tD_mono (tD_stm (R := RV X.K g) (m := mo) mr sr h) fun ov H1 ⟨ρ1, M1, od, x1, m1, s1, r1, h1⟩ => ?_
  refine tD_mono (tD_stm (R := RV X.K g) (m := mi) m1 s1 h1) fun iv H2 ⟨ρ2, M2, id, x2, m2, s2, r2, h2⟩ => ?_
  cases e : getI od id M2 with
  | none => rw [e] at h2; exact h2.elim
  | some x =>
    rw [e] at h2
    refine ⟨ρ2, M2, od, id, x, m2, x2.rv r1, r2, e, fun xv rx => ?_⟩
    refine tD_mono (tD_stm (R := RV X.K g) (m := ma) m2 s2 h2) fun yv H3 ⟨ρ3, M3, y, x3, m3, s3, r3, h3⟩ => ?_
    refine ⟨ρ3, M3, x, y, m3, x3.rv rx, r3, ?_⟩
    cases e4 : f x y M3 with
    | no => rw [e4] at h3; exact h3
    | ex z M4 => exact absurd e4 (hn _ _ _ _ _)
    | ok z M4 =>
      rw [e4, Rs.stm_ok] at h3
      intro ρ4 zv H4 x4 m4 r4
      have h4 := h3.at x4 m3.len m4.len
      cases e5 : setD od id z M4 with
      | none => rw [e5] at h4; exact h4.elim
      | some M5 =>
        rw [e5] at h4
        exact ⟨ρ4, M4, od, id, z, M5, m4, x4.rv (x3.rv (x2.rv r1)), x4.rv (x3.rv r2), r4, e5, fun H' x m => h4 ρ4 σ H' x m (x.sr (x4.sr s3))⟩
end
end
end Dl

set_option Elab.async false
set_option linter.all false
set_option autoImplicit false
set_option maxRecDepth 100000
set_option maxHeartbeats 4000000
/-! The D-layer: loops, what is walked, list comprehensions. -/
namespace Dl
noncomputable section
open PySem PySem.Spec L2
section
variable {X : Cx} {g : Gm} {W : WX} {K : PySem.W.Frag} {σ : L2.St} {H : Hp} {ρ ρ' : List Addr} {M M' : Mem} {H' : Hp} {a b c : Expr} {ma mb mc : EE} {pos : Pos} {δ : Loc}

/-! ### what is walked -/
/-- J yields the items, one after the other, from (ρ, M, H) on -/
def Walk (K : PySem.W.Frag) (g : Gm) (ρ : List Addr) (M : Mem) (H : Hp) (J : It) (items : List D) : Prop :=
  ∀ (i : Nat) ρ1 M1 H1, Ext ρ M H ρ1 M1 H1 → MR K g ρ1 M1 H1 →
    (∀ d, items[i]? = some d → J.go i H1 ∧ ∀ x H2, J.yld i H1 x H2 → Ext ρ1 M1 H1 ρ1 M1 H2 ∧ MR K g ρ1 M1 H2 ∧ RV K g ρ1 H2 d x) ∧ (items.length ≤ i → J.stop i H1)
def tI (K : PySem.W.Frag) (g : Gm) (W : WX) (m : AA) : TI := fun σ H R => tD K g (fun ρ' H' (items : List D) (v : List D × It) => v.1 = items) W m σ H fun _ _ => True
/-- a source -/
def tSrc (K : PySem.W.Frag) (g : Gm) (W : WX) (m : AA) : TI := fun σ H R => ∃ ρ δ M, MR K g ρ M H ∧ SR K g ρ H δ σ ∧
  match m δ M with
  | .ok items M' => ∀ ρ' J H', Ext ρ M H ρ' M' H' → MR K g ρ' M' H' → Walk K g ρ' M' H' J items → R J H'
  | .ex x M' => ∀ ρ' cls dx H', Ext ρ M H ρ' M' H' → MR K g ρ' M' H' → RX K g ρ' H' x cls dx → W cls dx σ H'
  | .no => False
structure DI (X : Cx) (g : Gm) (W : WX) (tg e : Expr) (m : AA) : Prop where
  pi : PI X tg e (tSrc X.K g W m)
theorem PI.imp {tg e : Expr} {t t' : TI} (h : PI X tg e t) (i : ∀ σ H R, t' σ H R → t σ H R) : PI X tg e t' := ⟨fun pins s σ H R I q => h.run pins s σ H R I (i σ H R q)⟩
/-- a source that is an expression's value, then its items -/
def aOf (f : D → Mem → Option (List D)) (m : EE) : AA := fun δ M => (m δ M).bind fun d M => ofO (f d M) M
theorem src_read {f : D → Mem → Option (List D)} {m : EE} {R : It → Hp → Prop} (h : tSrc X.K g W (aOf f m) σ H R) :
    tE X.K g W m σ H fun x H1 => ∃ ρ M d ds, MR X.K g ρ M H1 ∧ RV X.K g ρ H1 d x ∧ f d M = some ds ∧ ∀ J H2, Ext ρ M H1 ρ M H2 → MR X.K g ρ M H2 → Walk X.K g ρ M H2 J ds → R J H2 := by
  obtain ⟨ρ, δ, M, mr, sr, h⟩ := h
  refine ⟨ρ, δ, M, mr, sr, ?_⟩
  unfold aOf at h
  cases e : m δ M with
  | no => simp only [e] at h; exact h
  | ex x M1 => simp only [e] at h; exact h
  | ok d M1 =>
    simp only [e, Rs.bind_ok] at h
    intro ρ1 v H1 x1 m1 r1
    cases q : f d M1 with
    | none => rw [q] at h; exact h.elim
    | some ds =>
      rw [q] at h
      exact ⟨ρ1, M1, d, ds, m1, r1, q, fun J H2 x2 m2 w => h ρ1 J H2 (x1.trans x2 m1.len mr.len) m2 w⟩
/-- a frozen list (or the script): its items -/
def itL (d : D) (_ : Mem) : Option (List D) := match d with
  | .lst ds => some ds
  | .scr ns => some (ns.map D.int)
  | _ => none
def itT (d : D) (_ : Mem) : Option (List D) := match d with
  | .tup ds => some ds
  | _ => none
theorem walk_itl {p : Addr} {ds : List D} {vs : List V} (f : ∀ H1, Keep H H1 → SqL K H1 p vs) (r : RVs K g ρ H ds vs) (inj : ∀ H1 xs, Keep H H1 → SqL K H1 p xs → xs = vs) : Walk K g ρ M H (Itl K p) ds := by
  intro i ρ1 M1 H1 x m
  have s1 := f H1 x.kp
  refine ⟨fun d ed => ?_, fun hl => ⟨vs, s1, by rw [r.length]; exact hl⟩⟩
  obtain ⟨v, ev, rv⟩ := r.get ed
  refine ⟨⟨vs, v, s1, ev⟩, fun y H2 ⟨e, h⟩ => ?_⟩
  subst e
  have := h vs s1
  rw [ev] at this
  cases this
  exact ⟨.refl, m, x.rv rv⟩
theorem di_lst {tg : Expr} (ha : DE X g W a ma) : DI X g W tg a (aOf itL ma) := by
  refine ⟨PI.imp (pi_list ha.pe) fun σ H R h => tE_mono (src_read h) fun v H1 ⟨ρ, M, d, ds, mr, rv, e, q⟩ => ?_⟩
  cases d with
  | lst xs =>
    cases e
    rw [rv_lst] at rv
    obtain ⟨p, vs, e1, s1, q1⟩ := rv
    refine ⟨p, e1, ⟨vs, s1.sq⟩, q _ H1 .refl mr ?_⟩
    intro i ρ1 M1 H2 x m
    have s2 : SqL X.K H2 p vs := (x.kp.fzL s1).sq
    refine ⟨fun d ed => ?_, fun hl => ⟨vs, s2, by rw [q1.length]; exact hl⟩⟩
    obtain ⟨v, ev, rv⟩ := q1.get ed
    refine ⟨⟨vs, v, s2, ev⟩, fun y H3 ⟨e, h⟩ => ?_⟩
    subst e
    have := h vs s2
    rw [ev] at this
    cases this
    exact ⟨.refl, m, x.rv rv⟩
  | scr ns =>
    cases e
    rw [rv_scr] at rv
    obtain ⟨p, e1, s1⟩ := rv
    refine ⟨p, e1, ⟨_, s1.sq⟩, q _ H1 .refl mr ?_⟩
    intro i ρ1 M1 H2 x m
    have s2 : SqL X.K H2 p (ns.map V.int) := (x.kp.scL s1).sq
    refine ⟨fun d ed => ?_, fun hl => ⟨_, s2, by simpa using hl⟩⟩
    rw [List.getElem?_map] at ed
    cases en : ns[i]? with
    | none => rw [en] at ed; cases ed
    | some n =>
      rw [en] at ed
      cases ed
      have ev : (ns.map V.int)[i]? = some (.int n) := by rw [List.getElem?_map, en]; rfl
      refine ⟨⟨_, _, s2, ev⟩, fun y H3 ⟨e, h⟩ => ?_⟩
      subst e
      have := h _ s2
      rw [ev] at this
      cases this
      exact ⟨.refl, m, by rw [rv_int]⟩
  | _ => cases e
theorem di_tup {tg : Expr} (ha : DE X g W a ma) : DI X g W tg a (aOf itT ma) := by
  refine ⟨PI.imp (pi_tup ha.pe) fun σ H R h => tE_mono (src_read h) fun v H1 ⟨ρ, M, d, ds, mr, rv, e, q⟩ => ?_⟩
  cases d with
  | tup xs =>
    cases e
    rw [rv_tup] at rv
    obtain ⟨p, vs, e1, s1, q1⟩ := rv
    refine ⟨p, e1, ⟨vs, SqT.of s1⟩, q _ H1 .refl mr ?_⟩
    intro i ρ1 M1 H2 x m
    have s2 : SqT X.K H2 p vs := SqT.of (x.kp.tup _ _ s1)
    refine ⟨fun d ed => ?_, fun hl => ⟨vs, s2, by rw [q1.length]; exact hl⟩⟩
    obtain ⟨v, ev, rv⟩ := q1.get ed
    refine ⟨⟨vs, v, s2, ev⟩, fun y H3 ⟨e, h⟩ => ?_⟩
    subst e
    have := h vs s2
    rw [ev] at this
    cases this
    exact ⟨.refl, m, x.rv rv⟩
  | _ => cases e
/-- range(n), range(lo, hi) -/
def rangeD (lo : Int) (n : Nat) : List D := (List.range n).map fun i => D.int (lo + (i : Nat))
def rok (i : Int) : Bool := cdec (-(2 ^ 62) ≤ i ∧ i < 2 ^ 62)
def rng1 : List D → Option (List D)
  | [.int j] => if rok j then some (rangeD 0 j.toNat) else none
  | _ => none
def rng2 : List D → Option (List D)
  | [.int i, .int j] => if rok i && rok j then some (rangeD i (j - i).toNat) else none
  | _ => none
def aRng (f : List D → Option (List D)) (as : AA) : AA := fun δ M => (as δ M).bind fun ds M => ofO (f ds) M
theorem walk_range {lo : Int} {n : Nat} : Walk K g ρ M H (Itr lo n) (rangeD lo n) := by
  intro i ρ1 M1 H1 x m
  refine ⟨fun d ed => ?_, fun hl => (by simpa [rangeD] using hl : n ≤ i)⟩
  have hi : i < n := by
    have := (List.getElem?_eq_some_iff.mp ed).1
    simpa [rangeD] using this
  refine ⟨hi, fun y H2 ⟨e, ey⟩ => ?_⟩
  subst e ey
  refine ⟨.refl, m, ?_⟩
  simp only [rangeD, List.getElem?_map, List.getElem?_range hi, Option.map_some, Option.some.injEq] at ed
  subst ed
  rw [rv_int]
theorem rng_read {f : List D → Option (List D)} {as : AA} {R : It → Hp → Prop} (h : tSrc X.K g W (aRng f as) σ H R) :
    tA X.K g W as σ H fun vs H1 => ∃ ρ M ds items, MR X.K g ρ M H1 ∧ RVs X.K g ρ H1 ds vs ∧ f ds = some items ∧ ∀ J, Walk X.K g ρ M H1 J items → R J H1 := by
  obtain ⟨ρ, δ, M, mr, sr, h⟩ := h
  refine ⟨ρ, δ, M, mr, sr, ?_⟩
  unfold aRng at h
  cases e : as δ M with
  | no => simp only [e] at h; exact h
  | ex x M1 => simp only [e] at h; exact h
  | ok ds M1 =>
    simp only [e, Rs.bind_ok] at h
    intro ρ1 v H1 x1 m1 r1
    cases q : f ds with
    | none => rw [q] at h; exact h.elim
    | some items => rw [q] at h; exact ⟨ρ1, M1, ds, items, m1, r1, q, fun J w => h ρ1 J H1 x1 m1 w⟩
theorem di_range1 {tg : Expr} {as : AA} {p : Pos} (hm : X.mg "range" = none) (ha : DA X g W [a] as) (hg : Gl X "range" := by rfl) (hs : starEach [a] X.env = [(false, eval a X.env)] := by rfl) : DI X g W tg (.Call (.Name "range" p) [a] [] pos) (aRng rng1 as) := by
  refine ⟨PI.imp (pi_range1 hg hm ha.pa hs) fun σ H R h => tD_mono (rng_read h) fun vs H1 ⟨ρ, M, ds, items, mr, rv, e, q⟩ => ?_⟩
  unfold rng1 at e
  split at e
  · rename_i j
    by_cases hz : rok j = true
    · rw [if_pos hz] at e
      cases e
      have hz' : -(2 ^ 62) ≤ j ∧ j < 2 ^ 62 := cdec_iff.mp hz
      rw [rvs_cons] at rv
      obtain ⟨v1, r, ev, q1, rv⟩ := rv
      rw [rvs_nil] at rv
      rw [rv_int] at q1
      subst rv ev q1
      exact ⟨j, rfl, hz'.1, hz'.2, q _ walk_range⟩
    · rw [if_neg hz] at e; cases e
  · cases e
theorem di_range2 {tg : Expr} {as : AA} {p : Pos} (hm : X.mg "range" = none) (ha : DA X g W [a, b] as) (hg : Gl X "range" := by rfl) (hs : starEach [a, b] X.env = [(false, eval a X.env), (false, eval b X.env)] := by rfl) (hs2 : starEach [b] X.env = [(false, eval b X.env)] := by rfl) :
    DI X g W tg (.Call (.Name "range" p) [a, b] [] pos) (aRng rng2 as) := by
  refine ⟨PI.imp (pi_range2 hg hm ha.pa hs hs2) fun σ H R h => tD_mono (rng_read h) fun vs H1 ⟨ρ, M, ds, items, mr, rv, e, q⟩ => ?_⟩
  unfold rng2 at e
  split at e
  · rename_i i j
    by_cases hz : (rok i && rok j) = true
    · rw [if_pos hz] at e
      cases e
      rw [Bool.and_eq_true] at hz
      have hi : -(2 ^ 62) ≤ i ∧ i < 2 ^ 62 := cdec_iff.mp hz.1
      have hj : -(2 ^ 62) ≤ j ∧ j < 2 ^ 62 := cdec_iff.mp hz.2
      rw [rvs_cons] at rv
      obtain ⟨v1, r, ev, q1, rv⟩ := rv
      rw [rvs_cons] at rv
      obtain ⟨v2, r, ev2, q2, rv⟩ := rv
      rw [rvs_nil] at rv
      rw [rv_int] at q1 q2
      subst rv ev2 ev q1 q2
      exact ⟨i, j, rfl, ⟨hi.1, hi.2, hj.1, hj.2⟩, q _ walk_range⟩
    · rw [if_neg hz] at e; cases e
  · cases e

/-! ### for -/
def forL (gm : GG) (body : SS) : List D → Loc → Mem → Rt
  | [], δ, M => .nx δ M
  | d :: ds, δ, M => match gm d δ M with
    | .ok δ1 M1 => match body δ1 M1 with
      | .nx δ2 M2 => forL gm body ds δ2 M2
      | .ct δ2 M2 => forL gm body ds δ2 M2
      | .bk δ2 M2 => .nx δ2 M2
      | r => r
    | _ => .no
def sFor (src : AA) (gm : GG) (body : SS) : SS := fun δ M => (src δ M).stm δ fun items M1 => forL gm body items δ M1
theorem ds_for {tg : Expr} {body : List Stmt} {src : AA} {vs : List Nat} {gm : GG} {s : SS} (hp : PassesOwn (model X.prog X.w) X.A X.env X.xe) (hc : X.calm = true) (hi : DI X g W tg a src) (hg : DG X g tg vs gm) (hb : DSs X g W body s)
    (hs : ∀ x, foldedSetIterable a X.env x = pure x := by intro _; rfl) : DS X g W (.For tg a body [] pos) (sFor src gm s) := by
  refine ⟨PS.imp (ps_for hp hc hi.pi hg.pg hb.pss hs) fun D σ H ⟨ρ, δ, M, mr, sr, h⟩ => ⟨ρ, δ, M, mr, sr, ?_⟩⟩
  unfold sFor at h
  cases e : src δ M with
  | no => simp only [e] at h; exact h
  | ex x M1 => simp only [e] at h; exact fun ρ' cls dx H' x' m' r' => h ρ' cls dx σ H' x' m' (x'.sr sr) r'
  | ok items M1 =>
    simp only [e, Rs.stm_ok] at h
    intro ρ1 J H1 x1 m1 wk
    have h1 := h.at x1 mr.len m1.len
    refine ⟨fun i m σ' H' => m = items.length - i ∧ i ≤ items.length ∧ ∃ ρ2 δ2 M2, Ext ρ1 M1 H1 ρ2 M2 H' ∧ MR X.K g ρ2 M2 H' ∧ SR X.K g ρ2 H' δ2 σ' ∧ sOk X.K g W ρ2 M2 H' (forL gm s (items.drop i) δ2 M2) D,
      ⟨items.length, by simp, Nat.zero_le _, ρ1, δ, M1, .refl, m1, x1.sr sr, by simpa using h1⟩, ?_⟩
    rintro i m σ' H' ⟨rfl, hi, ρ2, δ2, M2, x2, m2, s2, h2⟩
    obtain ⟨wk1, wk2⟩ := wk i ρ2 M2 H' x2 m2
    by_cases hlt : i < items.length
    · refine .inr ?_
      obtain ⟨go, yl⟩ := wk1 items[i] (List.getElem?_eq_getElem hlt)
      rw [List.drop_eq_getElem_cons hlt] at h2
      refine ⟨go, fun σ3 H3 => ∃ ρ3 δ3 M3, Ext ρ1 M1 H1 ρ3 M3 H3 ∧ MR X.K g ρ3 M3 H3 ∧ SR X.K g ρ3 H3 δ3 σ3 ∧ sOk X.K g W ρ3 M3 H3 (forL gm s (items.drop (i + 1)) δ3 M3) D,
        fun σ3 H3 q => ⟨items.length - (i + 1), by omega, rfl, hlt, q⟩, fun y H3 hy => ?_⟩
      obtain ⟨x3, m3, r3⟩ := yl y H3 hy
      refine ⟨ρ2, δ2, M2, items[i], m3, x3.sr s2, r3, ?_⟩
      have x23 := x2.trans x3 m2.len m1.len
      rw [forL] at h2
      have h3 := h2.at x3 m2.len m3.len
      cases eg : gm items[i] δ2 M2 with
      | no => rw [eg] at h3; exact h3
      | ex z M3 => rw [eg] at h3; exact h3
      | ok δ3 M3 =>
        simp only [eg] at h3
        intro ρ4 σ4 H4 x4 m4 s4 _
        have h4 := h3.at x4 m3.len m4.len
        have x24 := x23.trans x4 m3.len m1.len
        refine ⟨ρ4, δ3, M3, m4, s4, ?_⟩
        cases eb : s δ3 M3 with
        | nx δ5 M5 =>
          simp only [eb] at h4
          exact fun ρ5 σ5 H5 x5 m5 s5 => ⟨ρ5, δ5, M5, x24.trans x5 m4.len m1.len, m5, s5, h4.at x5 m4.len m5.len⟩
        | ct δ5 M5 =>
          simp only [eb] at h4
          exact fun ρ5 σ5 H5 x5 m5 s5 => ⟨ρ5, δ5, M5, x24.trans x5 m4.len m1.len, m5, s5, h4.at x5 m4.len m5.len⟩
        | bk δ5 M5 => simp only [eb] at h4; exact h4
        | rt d M5 => simp only [eb] at h4; exact h4
        | ex z δ5 M5 => simp only [eb] at h4; exact h4
        | no => simp only [eb] at h4; exact h4
    · refine .inl ⟨wk2 (by omega), ?_⟩
      have : items.drop i = [] := List.drop_eq_nil_of_le (by omega)
      rw [this, forL] at h2
      exact h2 ρ2 σ' H' .refl m2 s2

/-! ### while -/
def whL (c : TT') (body : SS) : Nat → Loc → Mem → Rt
  | 0, _, _ => .no
  | n + 1, δ, M => (c δ M).stm δ fun b M1 => if b then (match body δ M1 with
      | .nx δ2 M2 => whL c body n δ2 M2
      | .ct δ2 M2 => whL c body n δ2 M2
      | .bk δ2 M2 => .nx δ2 M2
      | r => r) else .nx δ M1
def sWhile (n : Nat) (c : TT') (body : SS) : SS := fun δ M => whL c body n δ M
theorem ds_while (n : Nat) {tc : TT'} {body : List Stmt} {s : SS} (hp : PassesOwn (model X.prog X.w) X.A X.env X.xe) (hc : DT X g W c tc) (hb : DSs X g W body s) : DS X g W (.While c body [] pos) (sWhile n tc s) := by
  refine ⟨PS.imp (ps_while hp hc.pt hb.pss) fun D σ H ⟨ρ, δ, M, mr, sr, h⟩ => ?_⟩
  refine ⟨fun k σ' H' => ∃ ρ2 δ2 M2, Ext ρ M H ρ2 M2 H' ∧ MR X.K g ρ2 M2 H' ∧ SR X.K g ρ2 H' δ2 σ' ∧ sOk X.K g W ρ2 M2 H' (whL tc s k δ2 M2) D, ⟨n, ρ, δ, M, .refl, mr, sr, h⟩, ?_⟩
  rintro k σ' H' ⟨ρ2, δ2, M2, x2, m2, s2, h2⟩
  cases k with
  | zero => exact h2.elim
  | succ k =>
    rw [whL] at h2
    refine tD_mono (tD_stm (R := fun _ _ (a b : Bool) => b = a) m2 s2 h2) fun b H3 ⟨ρ3, M3, b', x3, m3, s3, e3, h3⟩ => ?_
    subst e3
    have x23 := x2.trans x3 m2.len mr.len
    cases b with
    | false =>
      rw [if_neg Bool.false_ne_true]
      exact h3 ρ3 σ' H3 .refl m3 s3
    | true =>
      rw [if_pos rfl]
      refine ⟨fun σ4 H4 => ∃ ρ4 δ4 M4, Ext ρ M H ρ4 M4 H4 ∧ MR X.K g ρ4 M4 H4 ∧ SR X.K g ρ4 H4 δ4 σ4 ∧ sOk X.K g W ρ4 M4 H4 (whL tc s k δ4 M4) D, fun σ4 H4 q => ⟨k, Nat.lt_succ_self k, q⟩, ρ3, δ2, M3, m3, s3, ?_⟩
      have h3 : sOk X.K g W ρ3 M3 H3 (match s δ2 M3 with
        | .nx δ2 M2 => whL tc s k δ2 M2
        | .ct δ2 M2 => whL tc s k δ2 M2
        | .bk δ2 M2 => .nx δ2 M2
        | r => r) D := h3
      cases eb : s δ2 M3 with
      | nx δ5 M5 =>
        simp only [eb] at h3
        exact fun ρ5 σ5 H5 x5 m5 s5 => ⟨ρ5, δ5, M5, x23.trans x5 m3.len mr.len, m5, s5, h3.at x5 m3.len m5.len⟩
      | ct δ5 M5 =>
        simp only [eb] at h3
        exact fun ρ5 σ5 H5 x5 m5 s5 => ⟨ρ5, δ5, M5, x23.trans x5 m3.len mr.len, m5, s5, h3.at x5 m3.len m5.len⟩
      | bk δ5 M5 => simp only [eb] at h3; exact h3
      | rt d M5 => simp only [eb] at h3; exact h3
      | ex z δ5 M5 => simp only [eb] at h3; exact h3
      | no => simp only [eb] at h3; exact h3
end
end
end Dl

set_option Elab.async false
set_option linter.all false
set_option autoImplicit false
set_option maxRecDepth 100000
set_option maxHeartbeats 4000000
/-! The D-layer: enumerate, zip, list comprehensions. -/
namespace Dl
noncomputable section
open PySem PySem.Spec L2
section
variable {X : Cx} {g : Gm} {W : WX} {K : PySem.W.Frag} {σ : L2.St} {H H1 : Hp} {ρ ρ' ρ1 : List Addr} {M M' M1 : Mem} {H' : Hp} {a b c : Expr} {ma mb mc : EE} {pos : Pos} {δ : Loc}

/-! ### enumerate, zip -/
def enumD (ds : List D) : List D := ds.zipIdx.map fun p => D.tup [.int (p.2 : Nat), p.1]
theorem enumD_get {ds : List D} (i : Nat) : (enumD ds)[i]? = (ds[i]?).map fun d => D.tup [.int (i : Nat), d] := by
  unfold enumD
  rw [List.getElem?_map, List.getElem?_zipIdx, Option.map_map]
  simp [Function.comp_def]
theorem enumD_length {ds : List D} : (enumD ds).length = ds.length := by simp [enumD]
def enum1 (f : D → Mem → Option (List D)) : List D → Mem → Option (List D) := fun ds M => match ds with
  | [d] => (f d M).map enumD
  | _ => none
def aArg (f : List D → Mem → Option (List D)) (as : AA) : AA := fun δ M => (as δ M).bind fun ds M => ofO (f ds M) M
theorem arg_read {f : List D → Mem → Option (List D)} {as : AA} {R : It → Hp → Prop} (h : tSrc X.K g W (aArg f as) σ H R) :
    tA X.K g W as σ H fun vs H1 => ∃ ρ M ds items, MR X.K g ρ M H1 ∧ RVs X.K g ρ H1 ds vs ∧ f ds M = some items ∧ ∀ J, Walk X.K g ρ M H1 J items → R J H1 := by
  obtain ⟨ρ, δ, M, mr, sr, h⟩ := h
  refine ⟨ρ, δ, M, mr, sr, ?_⟩
  unfold aArg at h
  cases e : as δ M with
  | no => simp only [e] at h; exact h
  | ex x M1 => simp only [e] at h; exact h
  | ok ds M1 =>
    simp only [e, Rs.bind_ok] at h
    intro ρ1 v H1 x1 m1 r1
    cases q : f ds M1 with
    | none => rw [q] at h; exact h.elim
    | some items => rw [q] at h; exact ⟨ρ1, M1, ds, items, m1, r1, q, fun J w => h ρ1 J H1 x1 m1 w⟩
theorem rvs_one {d : D} {vs : List V} (r : RVs K g ρ H [d] vs) : ∃ v, vs = [v] ∧ RV K g ρ H d v := by
  rw [rvs_cons] at r
  obtain ⟨v, r', e, h1, h2⟩ := r
  rw [rvs_nil] at h2
  subst h2
  exact ⟨v, e, h1⟩
theorem rvs_two {d e : D} {vs : List V} (r : RVs K g ρ H [d, e] vs) : ∃ v u, vs = [v, u] ∧ RV K g ρ H d v ∧ RV K g ρ H e u := by
  rw [rvs_cons] at r
  obtain ⟨v, r', e1, h1, h2⟩ := r
  obtain ⟨u, e2, h3⟩ := rvs_one h2
  subst e2
  exact ⟨v, u, e1, h1, h3⟩
theorem rvs_three {d e f : D} {vs : List V} (r : RVs K g ρ H [d, e, f] vs) : ∃ v u w, vs = [v, u, w] ∧ RV K g ρ H d v ∧ RV K g ρ H e u ∧ RV K g ρ H f w := by
  rw [rvs_cons] at r
  obtain ⟨v, r', e1, h1, h2⟩ := r
  obtain ⟨u, w, e2, h3, h4⟩ := rvs_two h2
  subst e2
  exact ⟨v, u, w, e1, h1, h3, h4⟩
/-- a list that stays: frozen, or the script -/
theorem itL_ok {d : D} {ds : List D} {v : V} (r : RV K g ρ H d v) (e : itL d M = some ds) : ∃ p vs, v = .ref p ∧ (∀ H1, Keep H H1 → SqL K H1 p vs) ∧ RVs K g ρ H ds vs := by
  cases d with
  | lst xs =>
    cases e
    rw [rv_lst] at r
    obtain ⟨p, vs, e1, s1, q1⟩ := r
    exact ⟨p, vs, e1, fun H1 k => (k.fzL s1).sq, q1⟩
  | scr ns =>
    cases e
    rw [rv_scr] at r
    obtain ⟨p, e1, s1⟩ := r
    exact ⟨p, _, e1, fun H1 k => (k.scL s1).sq, .map_int ns⟩
  | _ => cases e
theorem itT_ok {d : D} {ds : List D} {v : V} (r : RV K g ρ H d v) (e : itT d M = some ds) : ∃ p vs, v = .ref p ∧ (∀ H1, Keep H H1 → SqT K H1 p vs) ∧ RVs K g ρ H ds vs := by
  cases d with
  | tup xs =>
    cases e
    rw [rv_tup] at r
    obtain ⟨p, vs, e1, s1, q1⟩ := r
    exact ⟨p, vs, e1, fun H1 k => SqT.of (k.tup _ _ s1), q1⟩
  | _ => cases e
theorem rv_pair {x y : D} {u w : V} {T : Addr} (hT : H T = some (.tup [u, w])) (r1 : RV K g ρ H x u) (r2 : RV K g ρ H y w) : RV K g ρ H (.tup [x, y]) (.ref T) := by
  rw [rv_tup]
  refine ⟨T, [u, w], rfl, hT, ?_⟩
  rw [rvs_cons]
  exact ⟨u, [w], rfl, r1, .one r2⟩
theorem di_enumL {k : Nat} {tpos : Pos} {elts : List Expr} {as : AA} {p : Pos} (hm : X.mg "enumerate" = none) (ha : DA X g W [a] as) (hg : Gl X "enumerate" := by rfl) (hs : starEach [a] X.env = [(false, eval a X.env)] := by rfl) :
    DI X g W (.Tuple elts k tpos) (.Call (.Name "enumerate" p) [a] [] pos) (aArg (enum1 itL) as) := by
  refine ⟨PI.imp (pi_enum hg hm ha.pa hs) fun σ H R h => tD_mono (arg_read h) fun vs H1 ⟨ρ, M, ds, items, mr, rv, e, q⟩ => ?_⟩
  unfold enum1 at e
  split at e
  · rename_i d
    obtain ⟨v, ev, rv⟩ := rvs_one rv
    cases e1 : itL d M with
    | none => rw [e1] at e; cases e
    | some xs =>
      rw [e1] at e
      cases e
      obtain ⟨p, vs, e2, st, q1⟩ := itL_ok rv e1
      subst e2 ev
      refine ⟨p, vs, rfl, st H1 .refl, q _ ?_⟩
      intro i ρ1 M1 H2 x m
      have s2 := st H2 x.kp
      refine ⟨fun d ed => ?_, fun hl => ⟨vs, s2, by rw [q1.length]; rw [enumD_length] at hl; exact hl⟩⟩
      rw [enumD_get] at ed
      cases ex : xs[i]? with
      | none => rw [ex] at ed; cases ed
      | some d0 =>
        rw [ex] at ed
        cases ed
        obtain ⟨w, ew, rw0⟩ := q1.get ex
        refine ⟨⟨vs, w, s2, ew⟩, fun y H3 ⟨T, z, ey, hT, eH, hz⟩ => ?_⟩
        have := hz vs s2
        rw [ew] at this
        cases this
        subst ey eH
        have x3 : Ext ρ1 M1 H2 ρ1 M1 (upd H2 T (.tup [.int (i : Nat), w])) := ext_new hT
        exact ⟨x3, mr_new m hT, rv_pair upd_same (by rw [rv_int]) (x3.rv (x.rv rw0))⟩
  · cases e
def zip2 (f : D → Mem → Option (List D)) : List D → Mem → Option (List D) := fun ds M => match ds with
  | [d, e] => match f d M, f e M with
    | some xs, some ys => some ((xs.zip ys).map fun p => D.tup [p.1, p.2])
    | _, _ => none
  | _ => none
theorem zip_get {xs ys : List D} {i : Nat} {d : D} (h : ((xs.zip ys).map fun p => D.tup [p.1, p.2])[i]? = some d) : ∃ x y, xs[i]? = some x ∧ ys[i]? = some y ∧ d = .tup [x, y] := by
  rw [List.getElem?_map] at h
  cases e : (xs.zip ys)[i]? with
  | none => rw [e] at h; cases h
  | some p =>
    rw [e] at h
    cases h
    have := List.getElem?_zip_eq_some.mp e
    exact ⟨p.1, p.2, this.1, this.2, rfl⟩
theorem walk_zipL {p p2 : Addr} {xs ys : List D} {vs us : List V} (s1 : ∀ H1, Keep H H1 → SqL K H1 p vs) (s2 : ∀ H1, Keep H H1 → SqL K H1 p2 us) (q1 : RVs K g ρ H xs vs) (q2 : RVs K g ρ H ys us) :
    Walk K g ρ M H (Itz K p p2) ((xs.zip ys).map fun p => D.tup [p.1, p.2]) := by
  intro i ρ1 M1 H2 x m
  have t1 := s1 H2 x.kp
  have t2 := s2 H2 x.kp
  refine ⟨fun d ed => ?_, fun hl => ⟨vs, us, t1, t2, by rw [q1.length, q2.length]; simp at hl; omega⟩⟩
  obtain ⟨d1, d2, e1, e2, e3⟩ := zip_get ed
  subst e3
  obtain ⟨v1, ev1, r1⟩ := q1.get e1
  obtain ⟨v2, ev2, r2⟩ := q2.get e2
  refine ⟨⟨vs, us, v1, v2, t1, t2, ev1, ev2⟩, fun y H3 ⟨T, z, z2, ey, hT, eH, hz, hz2⟩ => ?_⟩
  have k1 := hz vs t1
  rw [ev1] at k1
  cases k1
  have k2 := hz2 us t2
  rw [ev2] at k2
  cases k2
  subst ey eH
  have x3 : Ext ρ1 M1 H2 ρ1 M1 (upd H2 T (.tup [v1, v2])) := ext_new hT
  exact ⟨x3, mr_new m hT, rv_pair upd_same (x3.rv (x.rv r1)) (x3.rv (x.rv r2))⟩
theorem walk_zipT {p p2 : Addr} {xs ys : List D} {vs us : List V} (s1 : ∀ H1, Keep H H1 → SqT K H1 p vs) (s2 : ∀ H1, Keep H H1 → SqT K H1 p2 us) (q1 : RVs K g ρ H xs vs) (q2 : RVs K g ρ H ys us) :
    Walk K g ρ M H (RZ.ItzT K p p2) ((xs.zip ys).map fun p => D.tup [p.1, p.2]) := by
  intro i ρ1 M1 H2 x m
  have t1 := s1 H2 x.kp
  have t2 := s2 H2 x.kp
  refine ⟨fun d ed => ?_, fun hl => ⟨vs, us, t1, t2, by rw [q1.length, q2.length]; simp at hl; omega⟩⟩
  obtain ⟨d1, d2, e1, e2, e3⟩ := zip_get ed
  subst e3
  obtain ⟨v1, ev1, r1⟩ := q1.get e1
  obtain ⟨v2, ev2, r2⟩ := q2.get e2
  refine ⟨⟨vs, us, v1, v2, t1, t2, ev1, ev2⟩, fun y H3 ⟨T, z, z2, ey, hT, eH, hz, hz2⟩ => ?_⟩
  have k1 := hz vs t1
  rw [ev1] at k1
  cases k1
  have k2 := hz2 us t2
  rw [ev2] at k2
  cases k2
  subst ey eH
  have x3 : Ext ρ1 M1 H2 ρ1 M1 (upd H2 T (.tup [v1, v2])) := ext_new hT
  exact ⟨x3, mr_new m hT, rv_pair upd_same (x3.rv (x.rv r1)) (x3.rv (x.rv r2))⟩
def zipA : List D → Mem → Option (List D) := fun ds M => match zip2 itL ds M with
  | some r => some r
  | none => zip2 itT ds M
theorem zip2_ok {f : D → Mem → Option (List D)} {ds items : List D} (h : zip2 f ds M = some items) : ∃ d e xs ys, ds = [d, e] ∧ f d M = some xs ∧ f e M = some ys ∧ items = (xs.zip ys).map fun p => D.tup [p.1, p.2] := by
  unfold zip2 at h
  split at h
  · rename_i d e
    split at h
    · rename_i xs ys e1 e2
      cases h
      exact ⟨d, e, xs, ys, rfl, e1, e2, rfl⟩
    · cases h
  · cases h
theorem di_zip {k : Nat} {tpos : Pos} {elts : List Expr} {as : AA} {p : Pos} (hm : X.mg "zip" = none) (ha : DA X g W [a, b] as) (hg : Gl X "zip" := by rfl) (hs : starEach [a, b] X.env = (false, eval a X.env) :: starEach [b] X.env := by rfl) (hpl : (backTo pos (starEach [b] X.env)).any (·.1) = false := by rfl) :
    DI X g W (.Tuple elts k tpos) (.Call (.Name "zip" p) [a, b] [] pos) (aArg zipA as) := by
  refine ⟨PI.imp (RZ.pi_zipA hg hm ha.pa hs hpl) fun σ H R h => tD_mono (arg_read h) fun vs H1 ⟨ρ, M, ds, items, mr, rv, e, q⟩ => ?_⟩
  unfold zipA at e
  split at e
  · rename_i r er
    cases e
    obtain ⟨d, e, xs, ys, rfl, e1, e2, rfl⟩ := zip2_ok er
    obtain ⟨v, u, ev, r1, r2⟩ := rvs_two rv
    obtain ⟨p, vs, ep, s1, q1⟩ := itL_ok r1 e1
    obtain ⟨p2, us, ep2, s2, q2⟩ := itL_ok r2 e2
    subst ev ep ep2
    exact ⟨p, p2, vs, us, rfl, .inl ⟨s1 H1 .refl, s2 H1 .refl, q _ (walk_zipL s1 s2 q1 q2)⟩⟩
  · obtain ⟨d, e, xs, ys, rfl, e1, e2, rfl⟩ := zip2_ok e
    obtain ⟨v, u, ev, r1, r2⟩ := rvs_two rv
    obtain ⟨p, vs, ep, s1, q1⟩ := itT_ok r1 e1
    obtain ⟨p2, us, ep2, s2, q2⟩ := itT_ok r2 e2
    subst ev ep ep2
    exact ⟨p, p2, vs, us, rfl, .inr ⟨s1 H1 .refl, s2 H1 .refl, q _ (walk_zipT s1 s2 q1 q2)⟩⟩

/-! ### list comprehensions -/
def wipeD (δ : Loc) : List Nat → Loc
  | [] => δ
  | v :: vs => (wipeD δ vs).set v none
theorem SR.wipe {vs : List Nat} (h : SR K g ρ H δ σ) : SR K g ρ H (wipeD δ vs) (L2.wipe σ vs) := by
  induction vs with
  | nil => exact h
  | cons v vs ih =>
    refine ⟨by simp [wipeD, L2.wipe, ih.1], fun j d e => ?_⟩
    simp only [wipeD, L2.wipe] at e ⊢
    by_cases hj : v = j
    · subst hj
      rw [List.getElem?_set] at e
      simp only [if_true] at e
      split at e <;> cases e
    · rw [List.getElem?_set_ne hj] at e ⊢
      exact ih.2 j d e
theorem Ext.nolv {D : Addr} {o : HO} (x : Ext ρ M H ρ1 M1 H1) (h : ¬ Lv ρ M D) (hD : H D = some o) (hl : ρ.length = M.length) : ¬ Lv ρ1 M1 D := by
  rintro ⟨n, e, lv⟩
  by_cases hn : n < ρ.length
  · have e0 := List.getElem?_eq_getElem hn
    have e1 := x.pre _ _ e0
    rw [e] at e1
    cases e1
    exact h ⟨n, e0, x.old n hn lv⟩
  · have := x.new n D (by omega) e lv
    rw [hD] at this
    cases this
/-- the new list at D is filled -/
theorem ext_side {D : Addr} {o o' : HO} (x : Ext ρ M H ρ1 M1 H1) (hD : H D = none) : Ext ρ M H ρ1 M1 (upd H1 D o) where
  pre := x.pre
  kp := ⟨fun p xs h => by rw [upd_ne (ne_of_none h hD)]; exact x.kp.tup p xs h, fun p ob u h => by rw [upd_ne (ne_of_none h hD)]; exact x.kp.frz p ob u h, fun p φ h => by rw [upd_ne (ne_of_none h hD)]; exact x.kp.ext p φ h⟩
  frame := fun p ob h nl nt => by rw [upd_ne (ne_of_none h hD)]; exact x.frame p ob h nl nt
  there := fun p h => by
    have := x.there p h
    unfold upd
    split
    · simp
    · exact this
  new := x.new
  old := x.old
  len := x.len
theorem mr_side {D : Addr} {vs ws : List V} (m : MR K g ρ M H) (h : ¬ Lv ρ M D) (hD : H D = some (.lst vs)) : MR K g ρ M (upd H D (.lst ws)) ∧ Keep H (upd H D (.lst ws)) := by
  have k : Keep H (upd H D (.lst ws)) := ⟨fun p xs e => by rw [upd_ne (ne_of e hD (fun z => nomatch z))]; exact e, fun p ob u e => by rw [upd_ne (ne_of e hD (fun z => nomatch z))]; exact e, fun p φ e => by rw [upd_ne (ne_of e hD (fun z => nomatch z))]; exact e⟩
  refine ⟨m.of_ext k (fun p ps e => by rw [upd_ne (ne_of e hD (fun z => nomatch z))]; exact e) fun n a e lv => upd_ne ?_, k⟩
  rintro rfl
  exact h ⟨n, e, lv⟩
/-- the list at D, full, becomes the answer -/
theorem mkL_at {fz : Bool} {D' : Addr} {ds : List D} {vs : List V} {Q : VK} (x : Ext ρ M H ρ1 M1 H1) (l0 : ρ.length = M.length) (m : MR K g ρ1 M1 H1) (nl : ¬ Lv ρ1 M1 D') (hD : H1 D' = some (.lst vs)) (h0 : H D' = none) (r : RVs K g ρ1 H1 ds vs)
    (h : pOk K g (RV K g) ρ M H (mkL fz ds M1) Q) : qFz Q (.ref D') H1 := by
  unfold mkL at h
  by_cases hz : sz ds.length = true
  · rw [if_pos hz] at h
    cases fz with
    | true =>
      rw [if_pos rfl] at h
      refine .inr ⟨D', vs, rfl, hD, fun o => ?_⟩
      have k : Keep H1 (upd H1 D' (.frz o (.lst vs))) := ⟨fun p xs e => by rw [upd_ne (ne_of e hD (fun z => nomatch z))]; exact e, fun p ob u e => by rw [upd_ne (ne_of e hD (fun z => nomatch z))]; exact e, fun p φ e => by rw [upd_ne (ne_of e hD (fun z => nomatch z))]; exact e⟩
      refine h ρ1 _ _ (ext_side (o' := .lst []) x h0) (m.of_ext k (fun p ps e => by rw [upd_ne (ne_of e hD (fun z => nomatch z))]; exact e) fun n a e lv => upd_ne ?_) ?_
      · rintro rfl
        exact nl ⟨n, e, lv⟩
      · rw [rv_lst]
        exact ⟨D', vs, rfl, ⟨o, upd_same⟩, r.mono k .refl⟩
    | false =>
      rw [if_neg Bool.false_ne_true] at h
      refine .inl ?_
      have hne : ∀ (n : Nat) (a : Addr), ρ1[n]? = some a → Live M1 n → a ≠ D' := fun n a e lv z => by subst z; exact nl ⟨n, e, lv⟩
      have oldL : ∀ n, n < ρ1.length → Live (M1 ++ [.lst ds]) n → Live M1 n := fun n hn ⟨o', e, l⟩ => by
        rw [List.getElem?_append_left (by rw [← m.len]; exact hn)] at e
        exact ⟨o', e, l⟩
      have oldA : ∀ (n : Nat) (a : Addr), n < ρ1.length → (ρ1 ++ [D'])[n]? = some a → ρ1[n]? = some a := fun n a hn e => by
        rw [List.getElem?_append_left hn] at e; exact e
      have lastA : ∀ (n : Nat) (a : Addr), ¬ n < ρ1.length → (ρ1 ++ [D'])[n]? = some a → n = ρ1.length ∧ a = D' := fun n a hn e => by
        have h2 : n = ρ1.length := by
          have := (List.getElem?_eq_some_iff.mp e).1
          simp at this
          omega
        subst h2
        rw [List.getElem?_append_right (Nat.le_refl _)] at e
        simp at e
        exact ⟨rfl, e.symm⟩
      refine h (ρ1 ++ [D']) _ H1 ?_ ?_ ?_
      · refine ⟨x.pre.trans .snoc, x.kp, x.frame, x.there, fun n a hn e lv => ?_, fun n hn lv => ?_, ?_⟩
        · by_cases hn1 : n < ρ1.length
          · exact x.new n a hn (oldA n a hn1 e) (oldL n hn1 lv)
          · obtain ⟨_, rfl⟩ := lastA n a hn1 e
            exact h0
        · exact x.old n hn (oldL n (by have := x.len; have := m.len; omega) lv)
        · have := x.len; simp; omega
      · refine ⟨by simp [m.len], fun n a o e1 e2 => ?_, fun n k a e1 e2 l1 l2 => ?_, m.tab⟩
        · by_cases hn1 : n < ρ1.length
          · rw [List.getElem?_append_left (by rw [← m.len]; exact hn1)] at e2
            exact (m.obj n a o (oldA n a hn1 e1) e2).mono .refl .snoc fun _ => rfl
          · obtain ⟨rfl, rfl⟩ := lastA n a hn1 e1
            rw [List.getElem?_append_right (by rw [m.len]; exact Nat.le_refl _)] at e2
            simp [m.len] at e2
            subst e2
            exact ⟨vs, hD, r.mono .refl .snoc⟩
        · by_cases hn1 : n < ρ1.length
          · by_cases hk1 : k < ρ1.length
            · exact m.inj n k a (oldA n a hn1 e1) (oldA k a hk1 e2) (oldL n hn1 l1) (oldL k hk1 l2)
            · obtain ⟨_, rfl⟩ := lastA k a hk1 e2
              exact absurd rfl (hne n _ (oldA n _ hn1 e1) (oldL n hn1 l1))
          · obtain ⟨rfl, rfl⟩ := lastA n a hn1 e1
            by_cases hk1 : k < ρ1.length
            · exact absurd rfl (hne k _ (oldA k _ hk1 e2) (oldL k hk1 l2))
            · exact (lastA k _ hk1 e2).1.symm
      · rw [rv_ref]
        refine ⟨D', ?_, rfl⟩
        rw [← m.len, List.getElem?_append_right (Nat.le_refl _)]
        simp
  · rw [if_neg hz] at h
    exact h.elim

/-- an error within is no answer -/
def Rs.bindN {α β : Type} (r : Rs α) (f : α → Mem → Rs β) : Rs β := match r with
  | .ok a M => f a M
  | _ => .no
@[simp] theorem Rs.bindN_ok {α β : Type} (a : α) (M : Mem) (f : α → Mem → Rs β) : (Rs.ok a M).bindN f = f a M := rfl
def compL (gm : GG) (tt : TT') (el : EE) (δ : Loc) : List D → Mem → List D → Rs (List D)
  | [], M, acc => .ok acc M
  | d :: ds, M, acc => (gm d δ M).bindN fun δ2 M1 => (tt δ2 M1).bindN fun b M2 => if b then (el δ2 M2).bindN fun y M3 => if decide (acc.length < sizeLine) then compL gm tt el δ ds M3 (acc ++ [y]) else .no else compL gm tt el δ ds M2 acc
theorem compL_noex {gm : GG} {tt : TT'} {el : EE} {δ : Loc} : ∀ {ds : List D} {M : Mem} {acc : List D} {e : Exn} {M' : Mem}, compL gm tt el δ ds M acc ≠ .ex e M'
  | [], _, _, _, _ => fun z => nomatch z
  | d :: ds, M, acc, e, M' => by
    rw [compL]
    cases gm d δ M with
    | no => exact fun z => nomatch z
    | ex _ _ => exact fun z => nomatch z
    | ok δ2 M1 =>
      rw [Rs.bindN_ok]
      cases tt δ2 M1 with
      | no => exact fun z => nomatch z
      | ex _ _ => exact fun z => nomatch z
      | ok b M2 =>
        rw [Rs.bindN_ok]
        cases b with
        | false => exact compL_noex
        | true =>
          rw [if_pos rfl]
          cases el δ2 M2 with
          | no => exact fun z => nomatch z
          | ex _ _ => exact fun z => nomatch z
          | ok y M3 =>
            rw [Rs.bindN_ok]
            split
            · exact compL_noex
            · exact fun z => nomatch z
def eLc (fz : Bool) (src : AA) (gm : GG) (tt : TT') (el : EE) (own : List Nat) : EE := fun δ M => (src δ M).bind fun items M1 => (compL gm tt el (wipeD δ own) items M1 []).bind fun ys M2 => mkL fz ys M2
def tYes' : TT' := fun _ M => .ok true M
structure DTs (X : Cx) (g : Gm) (ifs : List Expr) (m : TT') : Prop where
  pts : PTs X ifs (tT X.K g WF m)
theorem PTs.imp {ifs : List Expr} {t t' : TT} (h : PTs X ifs t) (i : ∀ σ H Q, t' σ H Q → t σ H Q) : PTs X ifs t' := ⟨fun pins s σ H Q I q => h.run pins s σ H Q I (i σ H Q q)⟩
theorem dts_nil : DTs X g [] tYes' := ⟨PTs.imp pts_nil fun σ H Q ⟨ρ, δ, M, mr, sr, h⟩ => rOk.now h mr rfl⟩
theorem dts_one {t : TT'} (h : DT X g WF c t) : DTs X g [c] t := ⟨pts_one h.pt⟩
/-- the rest of a comprehension, from a state on -/
def cOk (K : PySem.W.Frag) (g : Gm) (ρ : List Addr) (M : Mem) (H : Hp) (fz : Bool) (r : Rs (List D)) (Q : VK) : Prop := match r with
  | .ok ys M2 => pOk K g (RV K g) ρ M H (mkL fz ys M2) Q
  | _ => False
theorem wipe_absorb (τ : L2.St) : ∀ (ks l : List Nat), (∀ i ∈ ks, i ∈ l) → L2.wipe (L2.wipe τ ks) l = L2.wipe τ l
  | [], _, _ => rfl
  | k :: ks, l, hk => by
    show L2.wipe ((L2.wipe τ ks).set k none) l = _
    rw [wipe_set_comm, wipe_absorb τ ks l fun i hi => hk i (List.mem_cons_of_mem _ hi)]
    have hkl := hk k List.mem_cons_self
    clear hk
    induction l with
    | nil => cases hkl
    | cons v l ihl =>
      show ((L2.wipe τ l).set v none).set k none = (L2.wipe τ l).set v none
      by_cases hv : v = k
      · subst hv; simp
      · rw [List.set_comm _ _ hv, ihl (by rcases List.mem_cons.mp hkl with z | z; exact absurd z.symm hv; exact z)]
theorem wipe_of {τ τ' : L2.St} {gs l : List Nat} (hl : ∀ i ∈ gs, i ∈ l) (hw : L2.wipe τ gs = L2.wipe τ' gs) : L2.wipe τ l = L2.wipe τ' l := by
  rw [← wipe_absorb τ gs l hl, hw, wipe_absorb τ' gs l hl]
/-- what HandS asks of a comprehension, from the function's answer -/
theorem lc_read {src : AA} {gm : GG} {tt : TT'} {el : EE} {own : List Nat} {fz : Bool} {Q Q' : VK} {gs : List Nat} (hsub : ∀ i ∈ gs, i ∈ own) (hQ : ∀ v H, qFz Q v H → Q' v H) (h : tE X.K g W (eLc fz src gm tt el own) σ H Q) :
    tLc (tSrc X.K g W src) (tG X.K g gs gm) (tT X.K g WF tt) (tE X.K g WF el) own σ H Q' := by
  obtain ⟨ρ, δ, M, mr, sr, h⟩ := h
  refine ⟨ρ, δ, M, mr, sr, ?_⟩
  unfold eLc at h
  cases e : src δ M with
  | no => simp only [e] at h; exact h
  | ex x M1 => simp only [e] at h; exact h
  | ok items M1 =>
    simp only [e, Rs.bind_ok] at h
    intro ρ1 J H1 x1 m1 wk D' hD'
    have s1 : SR X.K g ρ1 H1 (wipeD δ own) (L2.wipe σ own) := (x1.sr sr).wipe
    have h1 : cOk X.K g ρ1 M1 H1 fz (compL gm tt el (wipeD δ own) items M1 []) Q := by
      cases ec : compL gm tt el (wipeD δ own) items M1 [] with
      | no => rw [ec] at h; exact h
      | ex z M2 => exact absurd ec compL_noex
      | ok ys M2 =>
        rw [ec, Rs.bind_ok] at h
        exact (h.at x1 mr.len m1.len).plain fun _ _ => mkL_noex
    have nlv : ¬ Lv ρ1 M1 D' := by
      rintro ⟨n, en, lv⟩
      obtain ⟨u, eu, _⟩ := m1.live_some en lv
      rw [hD'] at eu
      cases eu
    refine ⟨fun i m H' => m = items.length - i ∧ i ≤ items.length ∧ ∃ ρ2 M2 acc av, Ext ρ1 M1 H1 ρ2 M2 H' ∧ MR X.K g ρ2 M2 H' ∧ ¬ Lv ρ2 M2 D' ∧ H' D' = some (.lst av) ∧ RVs X.K g ρ2 H' acc av ∧
        cOk X.K g ρ1 M1 H1 fz (compL gm tt el (wipeD δ own) (items.drop i) M2 acc) Q,
      ⟨items.length, by simp, Nat.zero_le _, ρ1, M1, [], [], ext_side (o' := .lst []) .refl hD', mr_new m1 hD', nlv, upd_same, by rw [rvs_nil], by simpa using h1⟩, ?_⟩
    rintro i m H' ⟨rfl, hi, ρ2, M2, acc, av, x2, m2, nl2, hD2, ra, h2⟩
    obtain ⟨wk1, wk2⟩ := wk i ρ2 M2 H' x2 m2
    by_cases hlt : i < items.length
    · refine .inr ?_
      rw [List.drop_eq_getElem_cons hlt, compL] at h2
      obtain ⟨go, yl⟩ := wk1 items[i] (List.getElem?_eq_getElem hlt)
      refine ⟨go, fun H3 => ∃ ρ3 M3 acc3 av3, Ext ρ1 M1 H1 ρ3 M3 H3 ∧ MR X.K g ρ3 M3 H3 ∧ ¬ Lv ρ3 M3 D' ∧ H3 D' = some (.lst av3) ∧ RVs X.K g ρ3 H3 acc3 av3 ∧ cOk X.K g ρ1 M1 H1 fz (compL gm tt el (wipeD δ own) (items.drop (i + 1)) M3 acc3) Q,
        fun H3 q => ⟨items.length - (i + 1), by omega, rfl, hlt, q⟩, fun y H3 hy => ?_⟩
      obtain ⟨x3, m3, r3⟩ := yl y H3 hy
      have x23 := x2.trans x3 m2.len m1.len
      have hD3 := x3.frame _ _ hD2 nl2 (fun _ z => nomatch z)
      refine ⟨ρ2, wipeD δ own, M2, items[i], m3, x3.sr (x2.sr s1), r3, ?_⟩
      cases eg : gm items[i] (wipeD δ own) M2 with
      | no => rw [eg] at h2; exact h2
      | ex z M3 => rw [eg] at h2; exact h2
      | ok δ4 M4 =>
        rw [eg, Rs.bindN_ok] at h2
        intro ρ4 σ4 H4 x4 m4 s4 w4
        have x24 := x23.trans x4 m3.len m1.len
        have nl4 := x4.nolv nl2 hD3 m3.len
        have hD4 := x4.frame _ _ hD3 nl2 (fun _ z => nomatch z)
        refine ⟨?_, ρ4, δ4, M4, m4, s4, ?_⟩
        · rw [wipe_of hsub w4, wipe_absorb σ own own fun _ h => h]
        · cases et : tt δ4 M4 with
          | no => rw [et] at h2; exact h2
          | ex z M5 => rw [et] at h2; exact h2.elim
          | ok b M5 =>
            rw [et, Rs.bindN_ok] at h2
            intro ρ5 b' H5 x5 m5 eb
            subst eb
            have x25 := x24.trans x5 m4.len m1.len
            have nl5 := x5.nolv nl4 hD4 m4.len
            have hD5 := x5.frame _ _ hD4 nl4 (fun _ z => nomatch z)
            have ra5 : RVs X.K g ρ5 H5 acc av := x5.rvs (x4.rvs (x3.rvs ra))
            cases b' with
            | false =>
              rw [if_neg Bool.false_ne_true] at h2 ⊢
              exact ⟨ρ5, M5, acc, av, x25, m5, nl5, hD5, ra5, h2⟩
            | true =>
              rw [if_pos rfl] at h2 ⊢
              refine ⟨ρ5, δ4, M5, m5, x5.sr s4, ?_⟩
              cases ee : el δ4 M5 with
              | no => rw [ee] at h2; exact h2
              | ex z M6 => rw [ee] at h2; exact h2.elim
              | ok yd M6 =>
                rw [ee, Rs.bindN_ok] at h2
                intro ρ6 yv H6 x6 m6 r6
                have x26 := x25.trans x6 m5.len m1.len
                have nl6 := x6.nolv nl5 hD5 m5.len
                have hD6 := x6.frame _ _ hD5 nl5 (fun _ z => nomatch z)
                have ra6 := x6.rvs ra5
                by_cases hz : decide (acc.length < sizeLine) = true
                · rw [if_pos hz] at h2
                  refine ⟨av, hD6, by rw [ra6.length]; simpa using hz, ?_⟩
                  obtain ⟨m7, k7⟩ := mr_side (ws := av ++ [yv]) m6 nl6 hD6
                  exact ⟨ρ6, M6, acc ++ [yd], av ++ [yv], ext_side (o' := .lst []) x26 hD', m7, nl6, upd_same, (ra6.append (.one r6)).mono k7 .refl, h2⟩
                · rw [if_neg hz] at h2; exact h2.elim
    · refine .inl ⟨wk2 (by omega), ?_⟩
      have : items.drop i = [] := List.drop_eq_nil_of_le (by omega)
      rw [this, compL] at h2
      exact hQ _ _ (mkL_at x2 m1.len m2 nl2 hD2 hD' ra h2)
theorem de_lc (fz : Bool) {elt tg iter : Expr} {ifs : List Expr} {scope : Scope} (own : List (Str × Nat)) {src : AA} {gs : List Nat} {gm : GG} {tt : TT'} {el : EE} (hc : X.calm = true) (hN : X.N.Nodup) (hi : DI X g W tg iter src) (ok : BlkOk X.N X.env.scope scope own)
    (hg : ∀ (s : Shared) (H : Hp) (C : Addr) (cl : List (Str × Addr)) (fp : List Addr), DG (X.blk s H scope (compEnvC scope cl C X.env) fp) g tg gs gm)
    (ht : ∀ (s : Shared) (H : Hp) (C : Addr) (cl : List (Str × Addr)) (fp : List Addr), DTs (X.blk s H scope (compEnvC scope cl C X.env) fp) g ifs tt)
    (he : ∀ (s : Shared) (H : Hp) (C : Addr) (cl : List (Str × Addr)) (fp : List Addr), DE (X.blk s H scope (compEnvC scope cl C X.env) fp) g WF elt el)
    (hsub : ∀ i ∈ gs, i ∈ own.map (·.2) := by decide) (hs : ∀ x, foldedSetIterable iter X.env x = pure x := by intro _; rfl) : DE X g W (.ListComp elt [⟨tg, iter, ifs, 0⟩] scope pos) (eLc fz src gm tt el (own.map (·.2))) :=
  ⟨PE.imp (PE.fz (pe_lc hc hN hi.pi ok (fun s H C cl fp => (hg s H C cl fp).pg) (fun s H C cl fp => (ht s H C cl fp).pts) (fun s H C cl fp => (he s H C cl fp).pe) hs)) fun σ H Q h => lc_read hsub (fun _ _ z => z) h⟩
/-- behind a statement a list may be locked for good -/
def qS (nx : L2.St → Hp → Prop) : L2.St → Hp → Prop := fun σ H => nx σ H ∨ ∃ p vs, H p = some (.lst vs) ∧ ∀ o, nx σ (upd H p (.frz o (.lst vs)))
theorem PS.fz {st : Stmt} {t : TS} (h : PS X st t) : PS X st (fun D σ H => t { D with nx := qS D.nx } σ H) := by
  refine ⟨fun pins s σ H D I q => thn (h.run pins s σ H { D with nx := qS D.nx } I q) fun f s' z => ?_⟩
  cases f with
  | next =>
    obtain ⟨σ', H', I', q'⟩ := z
    rcases q' with q' | ⟨p, vs, hp, q'⟩
    · exact ⟨σ', H', I', q'⟩
    · obtain ⟨od, I2⟩ := I'.lock hp trivial
      exact ⟨σ', _, I2, q' od⟩
  | brk => exact z
  | cont => exact z
  | ret u => exact z
/-- name = [..] on one line -/
theorem ds_setLc (fz : Bool) (i : Nat) {y : Str} {py spos : Pos} {elt tg iter : Expr} {ifs : List Expr} {scope : Scope} (own : List (Str × Nat)) {src : AA} {gs : List Nat} {gm : GG} {tt : TT'} {el : EE} (hc : X.calm = true) (hN : X.N.Nodup) (hi : DI X g W tg iter src) (ok : BlkOk X.N X.env.scope scope own)
    (hg : ∀ (s : Shared) (H : Hp) (C : Addr) (cl : List (Str × Addr)) (fp : List Addr), DG (X.blk s H scope (compEnvC scope cl C X.env) fp) g tg gs gm)
    (ht : ∀ (s : Shared) (H : Hp) (C : Addr) (cl : List (Str × Addr)) (fp : List Addr), DTs (X.blk s H scope (compEnvC scope cl C X.env) fp) g ifs tt)
    (he : ∀ (s : Shared) (H : Hp) (C : Addr) (cl : List (Str × Addr)) (fp : List Addr), DE (X.blk s H scope (compEnvC scope cl C X.env) fp) g WF elt el)
    (hy : X.N[i]? = some y := by rfl) (hyl : X.env.scope.names.lookup y = some .local := by rfl) (hsw : swapsWith (.ListComp elt [⟨tg, iter, ifs, 0⟩] scope pos) (some (.Name y py)) spos.line X.env = pure true := by exact sw_true rfl rfl rfl (by decide +kernel))
    (hsub : ∀ i ∈ gs, i ∈ own.map (·.2) := by decide) (hs : ∀ x, foldedSetIterable iter X.env x = pure x := by intro _; rfl) :
    DS X g W (.Assign [.Name y py] (.ListComp elt [⟨tg, iter, ifs, 0⟩] scope pos) spos) (sAsg (eLc fz src gm tt el (own.map (·.2))) (gN i)) := by
  have h0 := ps_setLc (g := tG X.K g gs gm) (tt := tT X.K g WF tt) (te := tE X.K g WF el) (spos := spos) hc hN hy hyl hsw hi.pi ok (fun s H C cl fp => (hg s H C cl fp).pg) (fun s H C cl fp => (ht s H C cl fp).pts) (fun s H C cl fp => (he s H C cl fp).pe) hs
  refine ⟨PS.imp (PS.fz h0) fun D σ H h => lc_read (Q := fun x H1 => D.nx (σ.set i (some x)) H1) hsub (fun v H z => ?_) (tE_mono (asg_read (vs := [i]) h) fun v H1 ⟨ρ, δ, M, d, mr, sr, rv, h⟩ => h ρ _ H1 .refl mr (sr.set i rv) (wipe_set_self σ i v))⟩
  rcases z with z | ⟨p, vs, e, hp, z⟩
  · exact .inl z
  · exact .inr ⟨p, vs, hp, z⟩
end
end
end Dl

set_option Elab.async false
set_option linter.all false
set_option autoImplicit false
set_option maxRecDepth 100000
set_option maxHeartbeats 4000000
/-! The D-layer: defs and their calls. -/
namespace Dl
open PySem PySem.Spec PyProof.Rows L2

/-! ### what lies below a line of the memory -/
mutual
def bel (n : Nat) : D → Bool
  | .ref k => decide (k < n)
  | .tup ds => bels n ds
  | .lst ds => bels n ds
  | _ => true
def bels (n : Nat) : List D → Bool
  | [] => true
  | d :: ds => bel n d && bels n ds
end
theorem bels_iff {n : Nat} : ∀ {ds : List D}, bels n ds = true ↔ ∀ d ∈ ds, bel n d = true
  | [] => by simp [bels]
  | d :: ds => by simp [bels, bels_iff]
def belO (n : Nat) : Ob → Bool
  | .dead => true
  | .lst ds => bels n ds
  | .dK kvs => bels n (kvs.map (·.2))
  | .dT kvs => bels n (kvs.map (·.2))
  | .ins _ fs => bels n (fs.map (·.2))
section
variable {K : PySem.W.Frag} {g : Gm} {ρ ρ' : List Addr} {H H' : Hp} {M M' : Mem} {σ : L2.St}
mutual
theorem RV.back (hp : Pre ρ ρ') : ∀ {d : D} {v : V}, RV K g ρ' H d v → bel ρ.length d = true → RV K g ρ H d v
  | .non, _, h, _ => by rw [RV] at h ⊢; exact h
  | .bl _, _, h, _ => by rw [RV] at h ⊢; exact h
  | .int _, _, h, _ => by rw [RV] at h ⊢; exact h
  | .str _, _, h, _ => by rw [RV] at h ⊢; exact h
  | .ty _, _, h, _ => by rw [RV] at h ⊢; exact h
  | .fn _, _, h, _ => by rw [RV] at h ⊢; exact h
  | .ref n, _, h, b => by
    rw [RV] at h ⊢
    obtain ⟨a, e, h⟩ := h
    have hn : n < ρ.length := by simpa [bel] using b
    have e0 := List.getElem?_eq_getElem hn
    have e1 := hp _ _ e0
    rw [e] at e1
    cases e1
    exact ⟨_, e0, h⟩
  | .tup ds, _, h, b => by
    rw [RV] at h ⊢
    obtain ⟨p, vs, e, s, r⟩ := h
    exact ⟨p, vs, e, s, RVs.back hp r (by simpa [bel] using b)⟩
  | .lst ds, _, h, b => by
    rw [RV] at h ⊢
    obtain ⟨p, vs, e, s, r⟩ := h
    exact ⟨p, vs, e, s, RVs.back hp r (by simpa [bel] using b)⟩
  | .scr _, _, h, _ => by rw [RV] at h ⊢; exact h
  | .lam _, _, h, _ => by rw [RV] at h ⊢; exact h
theorem RVs.back (hp : Pre ρ ρ') : ∀ {ds : List D} {vs : List V}, RVs K g ρ' H ds vs → bels ρ.length ds = true → RVs K g ρ H ds vs
  | [], _, h, _ => by rw [RVs] at h ⊢; exact h
  | d :: ds, _, h, b => by
    rw [RVs] at h ⊢
    simp only [bels, Bool.and_eq_true] at b
    obtain ⟨v, r, e, h1, h2⟩ := h
    exact ⟨v, r, e, RV.back hp h1 b.1, RVs.back hp h2 b.2⟩
end
mutual
theorem RV.bel : ∀ {d : D} {v : V}, RV K g ρ H d v → bel ρ.length d = true
  | .non, _, _ => by rw [Dl.bel] <;> simp
  | .bl _, _, _ => by rw [Dl.bel] <;> simp
  | .int _, _, _ => by rw [Dl.bel] <;> simp
  | .str _, _, _ => by rw [Dl.bel] <;> simp
  | .ty _, _, _ => by rw [Dl.bel] <;> simp
  | .fn _, _, _ => by rw [Dl.bel] <;> simp
  | .ref n, _, h => by
    rw [RV] at h
    obtain ⟨a, e, h⟩ := h
    rw [Dl.bel]
    exact decide_eq_true (List.getElem?_eq_some_iff.mp e).1
  | .tup ds, _, h => by
    rw [RV] at h
    obtain ⟨p, vs, e, s, r⟩ := h
    rw [Dl.bel]
    exact RVs.bels r
  | .lst ds, _, h => by
    rw [RV] at h
    obtain ⟨p, vs, e, s, r⟩ := h
    rw [Dl.bel]
    exact RVs.bels r
  | .scr _, _, _ => by rw [Dl.bel] <;> simp
  | .lam _, _, _ => by rw [Dl.bel] <;> simp
theorem RVs.bels : ∀ {ds : List D} {vs : List V}, RVs K g ρ H ds vs → bels ρ.length ds = true
  | [], _, h => by rw [Dl.bels]
  | d :: ds, _, h => by
    rw [RVs] at h
    obtain ⟨v, r, e, h1, h2⟩ := h
    rw [Dl.bels, RV.bel h1, RVs.bels h2]
    rfl
end
theorem RO.belO {a : Addr} {o : Ob} (h : RO K g ρ H a o) : belO ρ.length o = true := by
  cases o with
  | dead => rfl
  | lst ds => obtain ⟨vs, _, r⟩ := h; exact RVs.bels r
  | dK kvs => obtain ⟨vs, _, _, r⟩ := h; exact RVs.bels r
  | dT kvs => obtain ⟨vs, _, _, r⟩ := h; exact RVs.bels r
  | ins c fs => obtain ⟨C, dx, vs, _, _, _, r⟩ := h; exact RVs.bels r
theorem RO.back {a : Addr} {o : Ob} (hp : Pre ρ ρ') (h : RO K g ρ' H a o) (b : Dl.belO ρ.length o = true) : RO K g ρ H a o := by
  cases o with
  | dead => trivial
  | lst ds => obtain ⟨vs, h1, r⟩ := h; exact ⟨vs, h1, r.back hp b⟩
  | dK kvs => obtain ⟨vs, h1, h2, r⟩ := h; exact ⟨vs, h1, h2, r.back hp b⟩
  | dT kvs => obtain ⟨vs, h1, h2, r⟩ := h; exact ⟨vs, h1, h2, r.back hp b⟩
  | ins c fs => obtain ⟨C, dx, vs, h0, h1, h2, r⟩ := h; exact ⟨C, dx, vs, h0, h1, h2, r.back hp b⟩

/-- what a def made and did not hand out is forgotten -/
def Fits (M : Mem) (d : D) (M' : Mem) : Prop := bel M.length d = true ∧ ∀ (i : Nat) (o : Ob), i < M.length → M'[i]? = some o → M[i]? = some o ∨ belO M.length o = true
open Classical in
noncomputable def dropM (M : Mem) (d : D) (M' : Mem) : Mem := if Fits M d M' then M'.take M.length else M'
theorem dropM_eq {d : D} (h : Fits M d M') : dropM M d M' = M'.take M.length := by
  unfold dropM
  rw [if_pos h]
/-- nothing old is changed -/
theorem dropM_app {d : D} {N : Mem} (h : bel M.length d = true) : dropM M d (M ++ N) = M := by
  rw [dropM_eq ⟨h, fun i o hi e => by rw [List.getElem?_append_left hi] at e; exact .inl e⟩]
  simp
theorem dropM_same {d : D} (h : M'.length = M.length) : dropM M d M' = M' := by
  unfold dropM
  split
  · rw [← h, List.take_length]
  · rfl
/-- one old thing is changed -/
theorem dropM_set {d : D} {N : Mem} {n : Nat} {o : Ob} (h : bel M.length d = true) (ho : belO M.length o = true) : dropM M d (M.set n o ++ N) = M.set n o := by
  rw [dropM_eq ⟨h, fun i o' hi e => ?_⟩]
  · rw [show M.length = (M.set n o).length by simp]
    simp
  · rw [List.getElem?_append_left (by simpa using hi)] at e
    by_cases hn : n = i
    · subst hn
      rw [List.getElem?_set] at e
      simp [hi] at e
      subst e
      exact .inr ho
    · rw [List.getElem?_set_ne hn] at e
      exact .inl e
theorem drop_ok {d : D} {v : V} (m : MR K g ρ M H) (x : Ext ρ M H ρ' M' H') (m' : MR K g ρ' M' H') (r : RV K g ρ' H' d v) : ∃ ρ2, Ext ρ M H ρ2 (dropM M d M') H' ∧ MR K g ρ2 (dropM M d M') H' ∧ RV K g ρ2 H' d v := by
  by_cases h : Fits M d M'
  · rw [dropM_eq h]
    have hl : M.length ≤ M'.length := x.len
    have lo : ∀ n, Live (M'.take M.length) n → Live M' n := fun n ⟨o, e, l⟩ => by
      rw [List.getElem?_take] at e
      split at e
      · exact ⟨o, e, l⟩
      · cases e
    have bo : ∀ (n : Nat) (a : Addr) (o : Ob), ρ[n]? = some a → M[n]? = some o → belO ρ.length o = true := fun n a o e1 e2 => (m.obj n a o e1 e2).belO
    refine ⟨ρ, ⟨.refl, x.kp, x.frame, x.there, fun n a h1 e _ => ?_, fun n h1 l => x.old n h1 (lo n l), ?_⟩, ⟨?_, fun n a o e1 e2 => ?_, fun n k a e1 e2 l1 l2 => ?_, m'.tab⟩, ?_⟩
    · rw [List.getElem?_eq_none_iff.mpr h1] at e; cases e
    · rw [List.length_take]; omega
    · rw [List.length_take, m.len]; omega
    · have hn : n < M.length := by rw [← m.len]; exact (List.getElem?_eq_some_iff.mp e1).1
      rw [List.getElem?_take_of_lt hn] at e2
      refine (m'.obj n a o (x.pre _ _ e1) e2).back x.pre ?_
      rcases h.2 n o hn e2 with z | z
      · exact bo n a o e1 z
      · rw [m.len]; exact z
    · exact m'.inj n k a (x.pre _ _ e1) (x.pre _ _ e2) (lo n l1) (lo k l2)
    · exact r.back x.pre (by rw [m.len]; exact h.1)
  · unfold dropM
    rw [if_neg h]
    exact ⟨ρ', x, m', r⟩
end

/-! ### a def -/
def startD (n : Nat) (ds : List D) : Loc := ds.map some ++ List.replicate (n - ds.length) none
/-- a def of n names -/
noncomputable def defF (n : Nat) (body : SS) : FF := fun ds M => match body (startD n ds) M with
  | .nx _ M' => .ok .non (dropM M .non M')
  | .rt d M' => .ok d (dropM M d M')
  | .ex x _ M' => .ex x M'
  | _ => .no
/-- its promise -/
def spD (K : PySem.W.Frag) (g : Gm) (n : Nat) (F : FF) : Sp := fun vs H Q E => ∃ ρ M ds, MR K g ρ M H ∧ RVs K g ρ H ds vs ∧ ds.length = n ∧ rOk K g (RV K g) (fun c d _ H => E c d H) ρ M [] H (F ds M) Q
section
variable {P : Program} {w : World} {K : PySem.W.Frag} {mg : Str → Option Value} {base : Heap} {g : Gm}
theorem sr_start {ρ : List Addr} {H : Hp} {N : List Str} {ds : List D} {vs : List V} (r : RVs K g ρ H ds vs) : SR K g ρ H (startD N.length ds) (L2.start N vs) := by
  refine ⟨by simp [startD, L2.start, r.length], fun i d e => ?_⟩
  unfold startD at e
  unfold L2.start
  by_cases hi : i < ds.length
  · rw [List.getElem?_append_left (by simpa using hi), List.getElem?_map] at e
    cases e2 : ds[i]? with
    | none => rw [e2] at e; cases e
    | some d' =>
      rw [e2] at e
      cases e
      obtain ⟨v, h1, h2⟩ := r.get e2
      refine ⟨v, ?_, h2⟩
      rw [List.getElem?_append_left (by rw [List.length_map, r.length]; exact hi), List.getElem?_map, h1]
      rfl
  · rw [List.getElem?_append_right (by simpa using hi), List.getElem?_replicate] at e
    split at e <;> cases e
/-- what a def promises where no repr is under way (L2.FnOk, with the guards known) -/
structure FnG (P : Program) (w : World) (K : PySem.W.Frag) (mg : Str → Option Value) (base : Heap) (k : Nat) (f : Addr) (fd : FuncData) (ps : List Str) (sp : Sp) : Prop where
  len : ∀ vs H Q E, sp vs H Q E → vs.length = ps.length
  run : ∀ (A : Around) (outer : List Env) (s : Shared) (H : Hp) (args : Args) (us : List Value) (vs : List V) (Q : VK) (E : XK), A.guards = some [] → Room k A → Env0 P w K mg base A outer s H → BindsTo s fd args (ps.zip us) → Vals vs us → sp vs H Q E →
    codeAny (model P w) A (.call (.ref f) args) (CR (L2.CX P w) outer P w H s Q E) s
theorem FnG.mono {j k : Nat} {f : Addr} {fd : FuncData} {ps : List Str} {sp : Sp} (F : FnG P w K mg base j f fd ps sp) (h : j ≤ k) : FnG P w K mg base k f fd ps sp :=
  ⟨F.len, fun A outer s H args us vs Q E hg hr => F.run A outer s H args us vs Q E hg (hr.mono h)⟩
/-- by its body -/
theorem fng_of {x qual : Str} {st : Stmt} {f : Addr} {fd : FuncData} {N ps : List Str} {k : Nat} {sp : Sp} (F : L2.Fun K x qual st f fd) (S : FnScope N ps (defScope st)) (len : ∀ vs H Q E, sp vs H Q E → vs.length = ps.length)
    (hbody : ∀ (cdv : Value) (A : Around) (outer : List Env) (s : Shared) (H : Hp) (vs : List V) (Q : VK) (E : XK), A.guards = some [] → Room k (A.deeper (PyProof.Rows.envOfC qual (defScope st) s.heap.objs.size f cdv)) → sp vs H Q E →
      ∃ t, PSs (cxOf (L2.CX P w) P w K mg base N qual (defScope st) f cdv A outer s H E) (defBody st) t ∧ t { nx := fun _ H' => Q .non H', rt := Q } (L2.start N vs) H) : FnG P w K mg base (k + 1) f fd ps sp := by
  obtain ⟨oc, od, kV, doc, pm, an, cdv, ct, osl, rfl, lk, hcd⟩ := F.ex
  refine ⟨len, fun A outer s H args us vs Q E hg hr e0 hb r h => ?_⟩
  have hl := len _ _ _ _ h
  have sub : ∀ b o, base.get? b = some o → s.heap.get? b = some o := fun b o e => (e0.bs b o e).1
  have kIn : K.In s.heap := e0.mod.kin.keeps sub
  have kinds : ∀ y ∈ ps.zip us, (defScope st).names.lookup y.1 = some .local ∨ ((defScope st).names.lookup y.1 = some .cell ∧ ((cellsFrom (s.heap.objs.size + 1) (defScope st).names []).lookup y.1).isSome = true) := fun ⟨n, v⟩ hy =>
    (S.par n (List.of_mem_zip hy).1).imp id fun q => ⟨q, PySem.W.cellsFrom_some _ _ _ (.inl q)⟩
  refine codeAny_call_function hr.depth (kIn _ _ lk) rfl S.co S.gen rfl (PySem.W.codeRec_of kIn hcd) (hb _ _ _ _ (wpAny_newFunctionEnv_cells S.kind kinds fun env he s1 x => ?_))
  subst he
  refine ⟨(e0.mod.nolimit.keeps sub).keeps x.toInCall.keep, codeAny_func ?_⟩
  obtain ⟨t, ht, q⟩ := hbody cdv A outer s H vs Q E hg (hr.deeper _) h
  refine wpAny_mono (ht.run [] s1 (L2.start N vs) H _ (inv_start S hr.hd e0 hl r x) q) (fun fl s' hs => ?_) fun e s' hs => hs
  have fin : ∀ {σ' : L2.St} {H' : Hp} {v : V} {u : Value}, Inv (cxOf (L2.CX P w) P w K mg base N qual (defScope st) f cdv A outer s H E) [] σ' H' s' → RelV v u → Q v H' → CE outer P w H s Q u s' :=
    fun {σ' H' v u} J rv q => ⟨v, H', J.os, J.bare, J.base, J.hok, rv, q⟩
  cases fl with
  | ret u => obtain ⟨v, σ', H', J, rv, q⟩ := hs; exact fin J rv q
  | next => obtain ⟨σ', H', J, q⟩ := hs; exact fin (v := V.non) (u := Value.none) J rfl q
  | brk => obtain ⟨_, _, _, q⟩ := hs; exact q.elim
  | cont => obtain ⟨_, _, _, q⟩ := hs; exact q.elim
/-- the i-th def, called x, of n parameters, does F -/
structure Cl (P : Program) (w : World) (K : PySem.W.Frag) (mg : Str → Option Value) (base : Heap) (g : Gm) (k i : Nat) (x : Str) (n : Nat) (F : FF) : Prop where
  ex : ∃ (f : Addr) (fd : FuncData) (ps : List Str), g.fa i = some f ∧ FnG P w K mg base k f fd ps (spD K g n F) ∧ mg x = some (.ref f) ∧ PySem.W.keepIn K (.ref f) = true ∧ Binds K fd ps []
theorem Cl.mono {k j i n : Nat} {x : Str} {F : FF} (c : Cl P w K mg base g k i x n F) (h : k ≤ j) : Cl P w K mg base g j i x n F := by
  obtain ⟨f, fd, ps, h1, h2, h3, h4, h5⟩ := c.ex
  exact ⟨f, fd, ps, h1, h2.mono h, h3, h4, h5⟩
/-- THE RULE of a def -/
theorem fng_d {x : Str} {st : Stmt} {f : Addr} {fd : FuncData} {N ps : List Str} {k : Nat} {body : SS} (F : L2.Fun K x x st f fd) (S : FnScope N ps (defScope st))
    (hb : ∀ (cdv : Value) (A : Around) (outer : List Env) (s : Shared) (H : Hp) (E : XK), A.guards = some [] → Room k (A.deeper (PyProof.Rows.envOfC x (defScope st) s.heap.objs.size f cdv)) →
      DSs (cxOf (L2.CX P w) P w K mg base N x (defScope st) f cdv A outer s H E) g (fun c d _ H => E c d H) (defBody st) body) : FnG P w K mg base (k + 1) f fd ps (spD K g ps.length (defF N.length body)) := by
  refine fng_of F S (fun vs H Q E ⟨ρ, M, ds, _, r, l, _⟩ => by rw [r.length, l]) (fun cdv A outer s H vs Q E hgd hr ⟨ρ, M, ds, mr, r, l, h⟩ => ?_)
  refine ⟨_, (hb cdv A outer s H E hgd hr).pss, ρ, startD N.length ds, M, mr, sr_start r, ?_⟩
  unfold defF at h
  have key : ∀ (d : D) (M' : Mem), rOk K g (RV K g) (fun c d _ H => E c d H) ρ M [] H (.ok d (dropM M d M')) Q → ∀ ρ' v H', Ext ρ M H ρ' M' H' → MR K g ρ' M' H' → RV K g ρ' H' d v → Q v H' := fun d M' h ρ' v H' x m r => by
    obtain ⟨ρ2, x2, m2, r2⟩ := drop_ok mr x m r
    exact h ρ2 v H' x2 m2 r2
  cases e : body (startD N.length ds) M with
  | nx δ M' =>
    rw [e] at h
    exact fun ρ' σ' H' x m _ => key .non M' h ρ' .non H' x m (by rw [rv_non])
  | rt d M' =>
    rw [e] at h
    exact key d M' h
  | ex y δ M' =>
    rw [e] at h
    exact fun ρ' cls dx σ' H' x m _ r => h ρ' cls dx H' x m r
  | bk δ M' => rw [e] at h; exact h.elim
  | ct δ M' => rw [e] at h; exact h.elim
  | no => rw [e] at h; exact h.elim
theorem cl_of {x : Str} {st : Stmt} {f : Addr} {fd : FuncData} {N ps : List Str} {k i : Nat} {body : SS} (F : L2.Fun K x x st f fd) (S : FnScope N ps (defScope st)) (hg : g.fa i = some f) (hm : mg x = some (.ref f)) (b : Binds K fd ps [])
    (hb : ∀ (cdv : Value) (A : Around) (outer : List Env) (s : Shared) (H : Hp) (E : XK), A.guards = some [] → Room k (A.deeper (PyProof.Rows.envOfC x (defScope st) s.heap.objs.size f cdv)) →
      DSs (cxOf (L2.CX P w) P w K mg base N x (defScope st) f cdv A outer s H E) g (fun c d _ H => E c d H) (defBody st) body) : Cl P w K mg base g (k + 1) i x ps.length (defF N.length body) :=
  ⟨f, fd, ps, hg, fng_d F S hb, hm, F.kp, b⟩
theorem takes_d {N : List Str} {qual : Str} {sc : Scope} {f : Addr} {cdv : Value} {A : Around} {outer : List Env} {s : Shared} {H : Hp} {E : XK} : Takes (cxOf (L2.CX P w) P w K mg base N qual sc f cdv A outer s H E) (fun c d _ H => E c d H) :=
  takes_of rfl rfl rfl rfl
end
section
variable {X : Cx} {g : Gm} {W : WX} {e a : Expr} {es : List Expr} {as : AA} {ma : EE} {x : Str} {p pos : Pos}
theorem run_fnG {k : Nat} {f : Addr} {fd : FuncData} {ps : List Str} {sp : Sp} {E : L2.St → XK} {pins : List (Addr × Obj)} {σ : L2.St} {H : Hp} {s : Shared} {Q : VK} {us : List Value} {vs : List V} (F : FnG X.prog X.w X.K X.mg X.base k f fd ps sp) (hgd : X.A.guards = some []) (hr : Room k X.A) (hb : Binds X.K fd ps []) (hx : PassesAt (L2.CX X.prog X.w) X σ (E σ))
    (I : Inv X pins σ H s) (r : Vals vs us) (h : sp vs H Q (E σ)) : wpAny (model X.prog X.w) X.A (call (.ref f) us) (EP X pins σ Q) X.xe s := by
  have b := hb s us I.kIn (by rw [List.append_nil, ← r.length]; exact F.len _ _ _ _ h)
  rw [List.append_nil] at b
  refine wpAny_call (codeAny_mono (F.run X.A X.stack s H ⟨us, []⟩ us vs Q (E σ) hgd hr I.env0 b r h) fun z s' hq => ?_)
  cases z with
  | error e => exact hx pins H s e s' I hq
  | ok fl =>
    cases fl with
    | ret u => exact I.after hq
    | next => exact hq.elim
    | brk => exact hq.elim
    | cont => exact hq.elim
theorem pe_callG {k : Nat} {f : Addr} {fd : FuncData} {ps : List Str} {sp : Sp} {E : L2.St → XK} {t : TA} (F : FnG X.prog X.w X.K X.mg X.base k f fd ps sp) (hgd : X.A.guards = some []) (hr : Room k X.A) (hg : Gl X x) (hm : X.mg x = some (.ref f)) (hk : PySem.W.keepIn X.K (.ref f) = true) (hb : Binds X.K fd ps []) (hx : ∀ σ, PassesAt (L2.CX X.prog X.w) X σ (E σ))
    (ha : PA X (e :: es) t) (hdb : (x == ("__debug__" : Str)) = false := by decide) (he : starEach (e :: es) X.env = (false, eval e X.env) :: starEach es X.env := by rfl) (hpl : (backTo pos (starEach es X.env)).any (·.1) = false := by rfl) :
    PE X (.Call (.Name x p) (e :: es) [] pos) (tCallS sp E t) := by
  refine ⟨fun pins s σ H Q I h => ?_⟩
  refine wpAny_Call_Name_kw (ld_glob I hg hm ?_ hdb)
  exact PySem.W.callWith_K (h₀ := X.base) I.ok.mod.kin hk (thn (ha.run pos pins s σ H _ I h) fun us s1 ⟨vs, H1, I1, r, q⟩ => ⟨I1.kIn, run_fnG F hgd hr hb (hx σ) I1 r q⟩) he hpl
/-- f(..) -/
def eCall (n : Nat) (F : FF) (as : AA) : EE := fun δ M => (as δ M).bind fun ds M1 => if ds.length = n then F ds M1 else .no
theorem call_read {n : Nat} {F : FF} {σ : L2.St} {H : Hp} {Q : VK} (h : tE X.K g W (eCall n F as) σ H Q) : tA X.K g W as σ H fun vs H1 => spD X.K g n F vs H1 Q (WE W σ) := by
  have h1 := tD_bind (R1 := RVs X.K g) (m := as) (f := fun ds _ M1 => if ds.length = n then F ds M1 else .no) h
  refine tD_mono h1 fun v H1 ⟨ρ, δ, M, ds, mr, sr, r, h⟩ => ?_
  by_cases hl : ds.length = n
  · rw [if_pos hl] at h
    refine ⟨ρ, M, ds, mr, r, hl, ?_⟩
    cases e : F ds M with
    | ok d M' => rw [e] at h; exact h
    | ex y M' => rw [e] at h; exact h
    | no => rw [e] at h; exact h
  · rw [if_neg hl] at h; exact h.elim
theorem de_call {k j i n : Nat} {F : FF} (c : Cl X.prog X.w X.K X.mg X.base g k i x n F) (hgd : X.A.guards = some []) (hr : Room j X.A) (hk : k ≤ j) (tk : Takes X W) (hg : Gl X x) (ha : DA X g W (e :: es) as)
    (hdb : (x == ("__debug__" : Str)) = false := by decide) (he : starEach (e :: es) X.env = (false, eval e X.env) :: starEach es X.env := by rfl) (hpl : (backTo pos (starEach es X.env)).any (·.1) = false := by rfl) :
    DE X g W (.Call (.Name x p) (e :: es) [] pos) (eCall n F as) := by
  obtain ⟨f, fd, ps, h1, h2, h3, h4, h5⟩ := c.ex
  exact ⟨PE.imp (pe_callG h2 hgd (hr.mono hk) hg h3 h4 h5 (E := WE W) (fun σ => passAt tk σ) ha.pa hdb he hpl) fun σ H Q h => call_read h⟩
/-- which defs a local may hold -/
def Tab (X : Cx) (g : Gm) (j : Nat) (T : Nat → Option (Nat × FF)) : Prop := ∀ i n F, T i = some (n, F) → ∃ y, Cl X.prog X.w X.K X.mg X.base g j i y n F
def eCallV (i : Nat) (T : Nat → Option (Nat × FF)) (as : AA) : EE := fun δ M => match δ[i]? with
  | some (some (.fn k)) => match T k with
    | some (n, F) => eCall n F as δ M
    | none => .no
  | _ => .no
theorem de_callV (i : Nat) {j : Nat} {T : Nat → Option (Nat × FF)} (t : Tab X g j T) (hgd : X.A.guards = some []) (hr : Room j X.A) (tk : Takes X W) (ha : DA X g W (e :: es) as) (hN : X.N[i]? = some x := by rfl) (hv : Vis X.env.scope x := by first | exact Or.inl rfl | exact Or.inr (Or.inl rfl) | exact Or.inr (Or.inr rfl))
    (hdb : (x == ("__debug__" : Str)) = false := by decide) (hcd : (x == ("__classdict__" : Str)) = false := by decide)
    (he : starEach (e :: es) X.env = (false, eval e X.env) :: starEach es X.env := by rfl) (hpl : (backTo pos (starEach es X.env)).any (·.1) = false := by rfl) :
    DE X g W (.Call (.Name x p) (e :: es) [] pos) (eCallV i T as) := by
  refine ⟨⟨fun pins s σ H Q I h => ?_⟩⟩
  obtain ⟨ρ, δ, M, mr, sr, h⟩ := h
  unfold eCallV at h
  split at h
  · rename_i k ek
    split at h
    · rename_i n F eT
      obtain ⟨y, c⟩ := t k n F eT
      obtain ⟨f, fd, ps, h1, h2, h3, h4, h5⟩ := c.ex
      obtain ⟨v, e1, rv⟩ := sr.2 i _ ek
      rw [rv_fn] at rv
      obtain ⟨f', e2, e3⟩ := rv
      rw [h1] at e2
      cases e2
      subst e3
      have h' : tE X.K g W (eCall n F as) σ H Q := ⟨ρ, δ, M, mr, sr, h⟩
      refine wpAny_Call_Name_kw (thn ((pe_var (pos := p) hN hv hdb hcd).run pins s σ H (fun v H1 => v = .ref f ∧ H1 = H) I ⟨.ref f, e1, rfl, rfl⟩) fun u s1 ⟨v, H1, I1, r1, q1⟩ => ?_)
      obtain ⟨rfl, rfl⟩ := q1
      cases r1
      refine PySem.W.callWith_K (h₀ := X.base) I.ok.mod.kin h4 (thn (ha.pa.run pos pins s1 σ _ _ I1 (call_read h')) fun us s2 ⟨vs, H2, I2, r, q⟩ => ⟨I2.kIn, ?_⟩) he hpl
      exact run_fnG (E := WE W) h2 hgd hr h5 (passAt tk σ) I2 r q
    · exact h.elim
  · exact h.elim
/-- a list that is not written any more -/
def fzM (d : D) (M : Mem) : Rs D := match d with
  | .ref n => match M[n]? with
    | some (.lst ds) => .ok (.lst ds) (M.set n .dead)
    | _ => .ok d M
  | _ => .ok d M
def eFz (m : EE) : EE := fun δ M => (m δ M).bind fun d M1 => fzM d M1
theorem fz_ok {K : PySem.W.Frag} {ρ : List Addr} {M : Mem} {H : Hp} {d : D} {v : V} {Q : VK} (mr : MR K g ρ M H) (r : RV K g ρ H d v) (h : pOk K g (RV K g) ρ M H (fzM d M) Q) : qFz Q v H := by
  have fin : pOk K g (RV K g) ρ M H (.ok d M) Q → qFz Q v H := fun h => .inl (h.now mr r)
  unfold fzM at h
  split at h
  · rename_i n
    split at h
    · rename_i ds e
      rw [rv_ref] at r
      obtain ⟨a, e1, e2⟩ := r
      obtain ⟨vs, h1, h2⟩ := mr.obj n a _ e1 e
      subst e2
      refine .inr ⟨a, vs, rfl, h1, fun o => ?_⟩
      have lv : Live M n := ⟨_, e, fun z => nomatch z⟩
      have x : Ext ρ M H ρ (M.set n .dead) (upd H a (.frz o (.lst vs))) := ext_write mr e1 lv
      refine h ρ _ _ x (mr_write mr e1 lv trivial) ?_
      rw [rv_lst]
      exact ⟨a, vs, rfl, ⟨o, upd_same⟩, x.rvs h2⟩
    · exact fin h
  · exact fin h
theorem fzM_noex {d : D} {M : Mem} {y : Exn} {M' : Mem} : fzM d M ≠ .ex y M' := by
  unfold fzM
  split
  · split <;> exact fun z => nomatch z
  · exact fun z => nomatch z
theorem de_fz (ha : DE X g W a ma) : DE X g W a (eFz ma) := by
  refine ⟨PE.imp (PE.fz ha.pe) fun σ H Q h => ?_⟩
  have h1 := tD_bind (R1 := RV X.K g) (m := ma) (f := fun d _ M1 => fzM d M1) h
  exact tD_mono h1 fun v H1 ⟨ρ, δ, M, d, mr, sr, r, h⟩ => fz_ok mr r (h.plain fun _ _ => fzM_noex)
end
end Dl

set_option Elab.async false
set_option linter.all false
set_option autoImplicit false
set_option maxRecDepth 100000
set_option maxHeartbeats 4000000
/-! The D-layer: built-in functions. -/
namespace Dl
noncomputable section
open PySem PySem.Spec L2

abbrev OL := List D → Mem → Rs D
def rC (K : PySem.W.Frag) (g : Gm) (op : OL) : List V → Hp → VK → Prop := fun xs H Q => ∃ ρ M ds, MR K g ρ M H ∧ RVs K g ρ H ds xs ∧ pOk K g (RV K g) ρ M H (op ds M) Q
def DC (X : Cx) (g : Gm) (f : Value) (op : OL) : Prop := CallR X f (rC X.K g op)
def NoExL (op : OL) : Prop := ∀ ds M e M', op ds M ≠ .ex e M'
def eB (op : OL) (as : AA) : EE := fun δ M => (as δ M).bind op
section
variable {X : Cx} {g : Gm} {W : WX} {K : PySem.W.Frag} {σ : L2.St} {H H' : Hp} {ρ ρ' : List Addr} {M M' : Mem} {e : Expr} {es : List Expr} {as : AA} {ma : EE} {x : Str} {p pos : Pos} {op : OL} {id T : String}
theorem eB_read (hn : NoExL op) {Q : VK} (h : tE X.K g W (eB op as) σ H Q) : tA X.K g W as σ H fun vs H1 => rC X.K g op vs H1 Q := by
  have h1 := tD_bind (R1 := RVs X.K g) (m := as) (f := fun ds _ M1 => op ds M1) h
  exact tD_mono h1 fun v H1 ⟨ρ, δ, M, ds, mr, sr, r, h⟩ => ⟨ρ, M, ds, mr, r, h.plain fun _ _ => hn _ _ _ _⟩
theorem de_callB (hc : DC X g (.builtin id) op) (hn : NoExL op) (hm : X.mg x = none) (hv : bootBuiltins x = some (.builtin id)) (hg : Gl X x) (ha : DA X g W (e :: es) as) (hna : x ≠ "__name__" := by decide) (hdb : (x == ("__debug__" : Str)) = false := by decide)
    (he : starEach (e :: es) X.env = (false, eval e X.env) :: starEach es X.env := by rfl) (hpl : (backTo pos (starEach es X.env)).any (·.1) = false := by rfl) : DE X g W (.Call (.Name x p) (e :: es) [] pos) (eB op as) :=
  ⟨PE.imp (pe_callB hc hg hm hv ha.pa hna hdb he hpl) fun _ _ _ h => eB_read hn h⟩
theorem de_callTy (hc : DC X g (.type T) op) (hn : NoExL op) (hm : X.mg x = none) (hv : bootBuiltins x = some (.type T)) (hg : Gl X x) (ha : DA X g W (e :: es) as) (hna : x ≠ "__name__" := by decide) (hdb : (x == ("__debug__" : Str)) = false := by decide)
    (he : starEach (e :: es) X.env = (false, eval e X.env) :: starEach es X.env := by rfl) (hpl : (backTo pos (starEach es X.env)).any (·.1) = false := by rfl) : DE X g W (.Call (.Name x p) (e :: es) [] pos) (eB op as) :=
  ⟨PE.imp (pe_callTy hc hg hm hv ha.pa hna hdb he hpl) fun _ _ _ h => eB_read hn h⟩
theorem rvs1 {d : D} {vs : List V} (r : RVs K g ρ H [d] vs) : ∃ v, vs = [v] ∧ RV K g ρ H d v := by
  rw [rvs_cons] at r
  obtain ⟨v, t, e, h1, h2⟩ := r
  rw [rvs_nil] at h2
  subst h2
  exact ⟨v, e, h1⟩
theorem rvs2 {d d' : D} {vs : List V} (r : RVs K g ρ H [d, d'] vs) : ∃ v v', vs = [v, v'] ∧ RV K g ρ H d v ∧ RV K g ρ H d' v' := by
  rw [rvs_cons] at r
  obtain ⟨v, t, e, h1, h2⟩ := r
  obtain ⟨v', e', h3⟩ := rvs1 h2
  subst e'
  exact ⟨v, v', e, h1, h3⟩

/-! ### len -/
def lenD : OL := fun ds M => match ds with
  | [.str s] => if sz s.length then .ok (.int s.length) M else .no
  | [d] => match getQ M d with
    | some xs => .ok (.int xs.length) M
    | none => match d with
      | .ref n => match M[n]? with
        | some (.dK kvs) => .ok (.int kvs.length) M
        | _ => .no
      | _ => .no
  | _ => .no
theorem lenD_noex : NoExL lenD := by
  intro ds M e M'
  unfold lenD
  repeat' split
  all_goals exact fun z => nomatch z
theorem call_lenDict : CallR X (.builtin "len") (fun xs H Q => ∃ a kvs, xs = [.ref a] ∧ H a = some (.dK kvs) ∧ Q (.int kvs.length) H) := by
  intro pins s σ H xs us Q I r h
  obtain ⟨a, kvs, rfl, hd, q⟩ := h
  obtain ⟨u, rfl, rx⟩ := vals1 r
  cases rx
  exact d_len I (.inl hd) fun t s' I' => ⟨.int kvs.length, H, I', ⟨_, rfl⟩, q⟩
theorem dc_len : DC X g (.builtin "len") lenD := by
  rintro pins s σ H xs us Q I rr ⟨ρ, M, ds, mr, r, h⟩
  unfold lenD at h
  split at h
  · rename_i z
    obtain ⟨v, rfl, r1⟩ := rvs1 r
    rw [rv_str] at r1
    subst r1
    by_cases hz : sz z.length = true
    · rw [if_pos hz] at h
      exact call_len_str pins s σ H _ us Q I rr ⟨z, rfl, by simpa [sz] using hz, h.now mr (by rw [rv_int])⟩
    · rw [if_neg hz] at h; exact h.elim
  · rename_i d _
    obtain ⟨v, rfl, r1⟩ := rvs1 r
    split at h
    · rename_i xs eq
      obtain ⟨p, vs, e1, s1, q1⟩ := getQ_ok mr eq r1
      subst e1
      exact call_len_seq pins s σ H _ us Q I rr ⟨p, vs, rfl, s1, h.now mr (by rw [rv_int, q1.length])⟩
    · split at h
      · rename_i n
        split at h
        · rename_i kvs ek
          rw [rv_ref] at r1
          obtain ⟨a, e1, e2⟩ := r1
          obtain ⟨kvs', h1, h2⟩ := mr.obj _ _ _ e1 ek
          subst e2
          exact call_lenDict pins s σ H _ us Q I rr ⟨a, kvs', rfl, h1, h.now mr (by rw [rv_int, KVr.length h2])⟩
        · exact h.elim
      · exact h.elim
  · exact h.elim
/-! ### abs, int, min, max of two, sum, all, any -/
def absD : OL := fun ds M => match ds with
  | [.int i] => .ok (.int (if i < 0 then -i else i)) M
  | _ => .no
def intD : OL := fun ds M => match ds with
  | [.int i] => .ok (.int i) M
  | [.bl b] => .ok (.int (if b then 1 else 0)) M
  | _ => .no
def min2D : OL := fun ds M => match ds with
  | [.int i, .int j] => .ok (.int (if j < i then j else i)) M
  | _ => .no
def max2D : OL := fun ds M => match ds with
  | [.int i, .int j] => .ok (.int (if j > i then j else i)) M
  | _ => .no
theorem absD_noex : NoExL absD := by
  intro ds M e M'
  unfold absD
  split <;> exact fun z => nomatch z
theorem intD_noex : NoExL intD := by
  intro ds M e M'
  unfold intD
  split <;> exact fun z => nomatch z
theorem min2D_noex : NoExL min2D := by
  intro ds M e M'
  unfold min2D
  split <;> exact fun z => nomatch z
theorem max2D_noex : NoExL max2D := by
  intro ds M e M'
  unfold max2D
  split <;> exact fun z => nomatch z
theorem dc_abs : DC X g (.builtin "abs") absD := by
  rintro pins s σ H xs us Q I rr ⟨ρ, M, ds, mr, r, h⟩
  unfold absD at h
  split at h
  · obtain ⟨v, rfl, r1⟩ := rvs1 r
    rw [rv_int] at r1
    subst r1
    exact call_abs pins s σ H _ us Q I rr ⟨_, rfl, h.now mr (by rw [rv_int])⟩
  · exact h.elim
theorem dc_int : DC X g (.type "int") intD := by
  rintro pins s σ H xs us Q I rr ⟨ρ, M, ds, mr, r, h⟩
  unfold intD at h
  split at h
  · obtain ⟨v, rfl, r1⟩ := rvs1 r
    rw [rv_int] at r1
    subst r1
    exact call_int1 pins s σ H _ us Q I rr (.inl ⟨_, rfl, h.now mr (by rw [rv_int])⟩)
  · obtain ⟨v, rfl, r1⟩ := rvs1 r
    rw [rv_bl] at r1
    subst r1
    exact call_int1 pins s σ H _ us Q I rr (.inr ⟨_, rfl, h.now mr (by rw [rv_int])⟩)
  · exact h.elim
theorem dc_min2 (hc : X.calm = true) : DC X g (.builtin "min") min2D := by
  rintro pins s σ H xs us Q I rr ⟨ρ, M, ds, mr, r, h⟩
  unfold min2D at h
  split at h
  · obtain ⟨v, v', rfl, r1, r2⟩ := rvs2 r
    rw [rv_int] at r1 r2
    subst r1 r2
    exact call_min2 hc pins s σ H _ us Q I rr ⟨_, _, rfl, h.now mr (by rw [rv_int])⟩
  · exact h.elim
theorem dc_max2 (hc : X.calm = true) : DC X g (.builtin "max") max2D := by
  rintro pins s σ H xs us Q I rr ⟨ρ, M, ds, mr, r, h⟩
  unfold max2D at h
  split at h
  · obtain ⟨v, v', rfl, r1, r2⟩ := rvs2 r
    rw [rv_int] at r1 r2
    subst r1 r2
    exact call_max2 hc pins s σ H _ us Q I rr ⟨_, _, rfl, h.now mr (by rw [rv_int])⟩
  · exact h.elim
def intsOf : List D → Option (List Int)
  | [] => some []
  | .int i :: ds => (intsOf ds).map (i :: ·)
  | _ => none
def blsOf : List D → Option (List Bool)
  | [] => some []
  | .bl i :: ds => (blsOf ds).map (i :: ·)
  | _ => none
theorem intsOf_ok : ∀ {ds : List D} {ns : List Int} {vs : List V}, intsOf ds = some ns → RVs K g ρ H ds vs → vs = ns.map V.int
  | [], _, _, e, r => by rw [intsOf] at e; cases e; rw [rvs_nil] at r; exact r
  | d :: ds, ns, vs, e, r => by
    cases d with
    | int i =>
      rw [intsOf] at e
      cases q : intsOf ds with
      | none => rw [q] at e; cases e
      | some ms =>
        rw [q] at e
        cases e
        rw [rvs_cons] at r
        obtain ⟨v, t, ev, h1, h2⟩ := r
        rw [rv_int] at h1
        subst h1 ev
        rw [intsOf_ok q h2]
        rfl
    | _ => simp [intsOf] at e
theorem blsOf_ok : ∀ {ds : List D} {ns : List Bool} {vs : List V}, blsOf ds = some ns → RVs K g ρ H ds vs → vs = ns.map V.bl
  | [], _, _, e, r => by rw [blsOf] at e; cases e; rw [rvs_nil] at r; exact r
  | d :: ds, ns, vs, e, r => by
    cases d with
    | bl i =>
      rw [blsOf] at e
      cases q : blsOf ds with
      | none => rw [q] at e; cases e
      | some ms =>
        rw [q] at e
        cases e
        rw [rvs_cons] at r
        obtain ⟨v, t, ev, h1, h2⟩ := r
        rw [rv_bl] at h1
        subst h1 ev
        rw [blsOf_ok q h2]
        rfl
    | _ => simp [blsOf] at e
theorem intsOf_map : ∀ ns : List Int, intsOf (ns.map D.int) = some ns
  | [] => rfl
  | n :: ns => by rw [List.map_cons, intsOf, intsOf_map ns]; rfl
theorem blsOf_map : ∀ ns : List Bool, blsOf (ns.map D.bl) = some ns
  | [] => rfl
  | n :: ns => by rw [List.map_cons, blsOf, blsOf_map ns]; rfl
def sumD : OL := fun ds M => match ds with
  | [d] => ofO (((getS M d).bind intsOf).map fun ns => .int ns.sum) M
  | _ => .no
def allD : OL := fun ds M => match ds with
  | [d] => ofO (((getS M d).bind blsOf).map fun ns => .bl (ns.all fun b => b)) M
  | _ => .no
def anyD : OL := fun ds M => match ds with
  | [d] => ofO (((getS M d).bind blsOf).map fun ns => .bl (ns.any fun b => b)) M
  | _ => .no
theorem sumD_noex : NoExL sumD := by
  intro ds M e M'
  unfold sumD
  split
  · exact ofO_noex
  · exact fun z => nomatch z
theorem allD_noex : NoExL allD := by
  intro ds M e M'
  unfold allD
  split
  · exact ofO_noex
  · exact fun z => nomatch z
theorem anyD_noex : NoExL anyD := by
  intro ds M e M'
  unfold anyD
  split
  · exact ofO_noex
  · exact fun z => nomatch z
theorem seqBind {α : Type} {d d' : D} {f : List D → Option α} {q : α → D} {v : V} (mr : MR K g ρ M H) (e : ((getS M d).bind f).map q = some d') (r : RV K g ρ H d v) : ∃ xs a p vs, f xs = some a ∧ d' = q a ∧ v = .ref p ∧ SqL K H p vs ∧ RVs K g ρ H xs vs := by
  cases e1 : getS M d with
  | none => rw [e1] at e; cases e
  | some xs =>
    rw [e1] at e
    cases e2 : f xs with
    | none =>
      have : (some xs).bind f = none := e2
      rw [this] at e; cases e
    | some a =>
      have : (some xs).bind f = some a := e2
      rw [this] at e
      obtain ⟨p, vs, e3, s1, q1⟩ := getS_ok mr e1 r
      exact ⟨xs, a, p, vs, e2, (Option.some.inj e).symm, e3, s1, q1⟩
theorem dc_sum (hc : X.calm = true) : DC X g (.builtin "sum") sumD := by
  rintro pins s σ H xs us Q I rr ⟨ρ, M, ds, mr, r, h⟩
  unfold sumD at h
  split at h
  · obtain ⟨d', e, h⟩ := h.ofO
    obtain ⟨v, rfl, r1⟩ := rvs1 r
    obtain ⟨xs, ns, p, vs, e1, rfl, rfl, s1, q1⟩ := seqBind mr e r1
    exact cr_sum hc pins s σ H _ us Q I rr ⟨p, ns, rfl, by rw [← intsOf_ok e1 q1]; exact s1, h.now mr (by rw [rv_int])⟩
  · exact h.elim
theorem dc_all (hc : X.calm = true) : DC X g (.builtin "all") allD := by
  rintro pins s σ H xs us Q I rr ⟨ρ, M, ds, mr, r, h⟩
  unfold allD at h
  split at h
  · obtain ⟨d', e, h⟩ := h.ofO
    obtain ⟨v, rfl, r1⟩ := rvs1 r
    obtain ⟨xs, ns, p, vs, e1, rfl, rfl, s1, q1⟩ := seqBind mr e r1
    exact cr_all hc pins s σ H _ us Q I rr ⟨p, ns, rfl, by rw [← blsOf_ok e1 q1]; exact s1, h.now mr (by rw [rv_bl]; rfl)⟩
  · exact h.elim
theorem dc_any (hc : X.calm = true) : DC X g (.builtin "any") anyD := by
  rintro pins s σ H xs us Q I rr ⟨ρ, M, ds, mr, r, h⟩
  unfold anyD at h
  split at h
  · obtain ⟨d', e, h⟩ := h.ofO
    obtain ⟨v, rfl, r1⟩ := rvs1 r
    obtain ⟨xs, ns, p, vs, e1, rfl, rfl, s1, q1⟩ := seqBind mr e r1
    exact cr_any hc pins s σ H _ us Q I rr ⟨p, ns, rfl, by rw [← blsOf_ok e1 q1]; exact s1, h.now mr (by rw [rv_bl]; rfl)⟩
  · exact h.elim

/-! ### tuple(x), list(x) -/
def tupleD : OL := fun ds M => match ds with
  | [.tup xs] => .ok (.tup xs) M
  | [d] => match getS M d with
    | some xs => .ok (.tup xs) M
    | none => .no
  | _ => .no
theorem tupleD_noex : NoExL tupleD := by
  intro ds M e M'
  unfold tupleD
  repeat' split
  all_goals exact fun z => nomatch z
theorem dc_tuple : DC X g (.type "tuple") tupleD := by
  rintro pins s σ H xs us Q I rr ⟨ρ, M, ds, mr, r, h⟩
  unfold tupleD at h
  split at h
  · obtain ⟨v, rfl, r1⟩ := rvs1 r
    have r2 := r1
    rw [rv_tup] at r2
    obtain ⟨p, vs, rfl, h1, h2⟩ := r2
    exact call_tuple_of pins s σ H _ us Q I rr ⟨p, vs, rfl, .inr ⟨SqT.of h1, h.now mr r1⟩⟩
  · rename_i d _
    obtain ⟨v, rfl, r1⟩ := rvs1 r
    split at h
    · rename_i xs e1
      obtain ⟨p, vs, rfl, s1, q1⟩ := getS_ok mr e1 r1
      exact call_tuple_of pins s σ H _ us Q I rr ⟨p, vs, rfl, .inl ⟨s1, fun l hl => tup_ok mr hl q1 h⟩⟩
    · exact h.elim
  · exact h.elim
/-- a key as a value -/
def keyD : Key → D
  | .inl i => .int i
  | .inr s => .str s
theorem rv_key (k : Key) : RV K g ρ H (keyD k) (kV k) := by
  cases k with
  | inl i => rw [keyD, rv_int]; rfl
  | inr i => rw [keyD, rv_str]; rfl
theorem rvs_keys : ∀ ks : List Key, RVs K g ρ H (ks.map keyD) (ks.map kV)
  | [] => by rw [List.map_nil, List.map_nil, rvs_nil]
  | k :: ks => by rw [List.map_cons, List.map_cons, rvs_cons]; exact ⟨_, _, rfl, rv_key k, rvs_keys ks⟩
/-- a dict's keys -/
def keysD (M : Mem) : D → Option (List D)
  | .ref n => match M[n]? with
    | some (.dK kvs) => some (kvs.map fun kv => keyD kv.1)
    | some (.dT kvs) => some (kvs.map fun kv => .tup (kv.1.map keyD))
    | _ => none
  | _ => none
theorem rvs_tkeys : ∀ {kvs : List (List Key × V)} {bs : List Addr}, IsKeys H kvs bs → RVs K g ρ H (kvs.map fun kv => D.tup (kv.1.map keyD)) (bs.map V.ref)
  | _, _, .nil => by rw [List.map_nil, List.map_nil, rvs_nil]
  | _, _, .cons h t => by
    rw [List.map_cons, List.map_cons, rvs_cons]
    exact ⟨_, _, rfl, by rw [rv_tup]; exact ⟨_, _, rfl, h, rvs_keys _⟩, rvs_tkeys t⟩
theorem KVr.keysEq {κ : Type} {kvs : List (κ × D)} {kvs' : List (κ × V)} {α : Type} (f : κ → α) (h : KVr K g ρ H kvs kvs') : (kvs.map fun kv => f kv.1) = kvs'.map fun kv => f kv.1 := by
  have e := congrArg (List.map f) h.1
  rw [List.map_map, List.map_map] at e
  exact e
def listD (fz : Bool) : OL := fun ds M => match ds with
  | [d] => match getQ M d with
    | some xs => mkL fz xs M
    | none => match keysD M d with
      | some xs => mkL fz xs M
      | none => .no
  | _ => .no
theorem listD_noex {fz : Bool} : NoExL (listD fz) := by
  intro ds M e M'
  unfold listD
  repeat' split
  all_goals first | exact mkL_noex | exact fun z => nomatch z
theorem dc_list (fz : Bool) (hc : X.calm = true) : DC X g (.type "list") (listD fz) := by
  rintro pins s σ H xs us Q I rr ⟨ρ, M, ds, mr, r, h⟩
  unfold listD at h
  split at h
  · rename_i d
    obtain ⟨v, rfl, r1⟩ := rvs1 r
    split at h
    · rename_i xs e1
      obtain ⟨p, vs, rfl, s1, q1⟩ := getQ_ok mr e1 r1
      exact callR_fz call_list_of pins s σ H _ us Q I rr ⟨p, vs, rfl, s1, fun l hl => mkL_ok mr hl q1 h⟩
    · split at h
      · rename_i xs e1
        unfold keysD at e1
        split at e1
        · rename_i n
          rw [rv_ref] at r1
          obtain ⟨a, e2, rfl⟩ := r1
          split at e1
          · rename_i kvs ek
            cases e1
            obtain ⟨kvs', h1, h2⟩ := mr.obj _ _ _ e2 ek
            refine callR_fz (call_list_dK hc) pins s σ H _ us Q I rr ⟨a, kvs', rfl, h1, fun q hq => mkL_ok mr hq ?_ h⟩
            rw [h2.keysEq keyD]
            have e3 : (kvs'.map fun kv => keyD kv.1) = (kvs'.map (·.1)).map keyD := by rw [List.map_map]; rfl
            have e4 : (kvs'.map fun kv => kV kv.1) = (kvs'.map (·.1)).map kV := by rw [List.map_map]; rfl
            rw [e3, e4]
            exact rvs_keys _
          · rename_i kvs ek
            cases e1
            obtain ⟨kvs', h1, h2⟩ := mr.obj _ _ _ e2 ek
            refine callR_fz (call_list_dT hc) pins s σ H _ us Q I rr ⟨a, kvs', rfl, .inl h1, fun q bs hq hk => mkL_ok mr hq ?_ h⟩
            rw [h2.keysEq fun k => D.tup (k.map keyD)]
            exact rvs_tkeys hk
          · cases e1
        · cases e1
      · exact h.elim
  · exact h.elim
end
end
end Dl

set_option Elab.async false
set_option linter.all false
set_option autoImplicit false
set_option maxRecDepth 100000
set_option maxHeartbeats 4000000
/-! The D-layer: sorted. -/
namespace Dl
noncomputable section
open PySem PySem.Spec L2

def dP (d : D) : PyData := (toP d).getD .none
def leD' : D → D → Bool := PySem.W.dataLe false dP
def alikeDs (ps : List PyData) : Bool := ps.all fun p => ps.all fun q => PySem.W.alike p q
def tupNE : PyData → Bool
  | .tuple (_ :: _) => true
  | _ => false
def plainP : PyData → Bool
  | .none => false
  | .tuple _ => false
  | _ => true
def sortOk (ds : List D) : Bool := match toPs ds with
  | some ps => alikeDs ps && (ps.all tupNE || ps.all plainP) && ps.all fun p => decide (p.depth ≤ 60)
  | none => false
def sortL (fz : Bool) (ds : List D) (M : Mem) : Rs D := if sortOk ds then mkL fz (ds.mergeSort leD') M else .no
def sortedD (fz : Bool) : OL := fun ds M => match ds with
  | [d] => match getS M d with
    | some xs => sortL fz xs M
    | none => match keysD M d with
      | some xs => sortL fz xs M
      | none => .no
  | _ => .no
theorem sortL_noex {fz : Bool} {ds : List D} {M : Mem} {e : Exn} {M' : Mem} : sortL fz ds M ≠ .ex e M' := by
  unfold sortL
  split
  · exact mkL_noex
  · exact fun z => nomatch z
theorem sortedD_noex {fz : Bool} : NoExL (sortedD fz) := by
  intro ds M e M'
  unfold sortedD
  repeat' split
  all_goals first | exact sortL_noex | exact fun z => nomatch z
section
variable {X : Cx} {g : Gm} {W : WX} {K : PySem.W.Frag} {σ : L2.St} {H H' : Hp} {ρ ρ' : List Addr} {M M' : Mem}
theorem sortOk_ok {ds : List D} (h : sortOk ds = true) : ∃ ps, toPs ds = some ps ∧ ds.map dP = ps ∧ PySem.W.AllAlike ps ∧ PySem.W.Sortable ps ∧ ∀ p ∈ ps, p.depth ≤ 60 := by
  unfold sortOk at h
  split at h
  · rename_i ps e
    simp only [Bool.and_eq_true, Bool.or_eq_true, List.all_eq_true, decide_eq_true_eq] at h
    obtain ⟨⟨h1, h2⟩, h3⟩ := h
    refine ⟨ps, e, ?_, ?_, ?_, h3⟩
    · clear h1 h2 h3
      induction ds generalizing ps with
      | nil => rw [toPs] at e; cases e; rfl
      | cons d ds ih =>
        rw [toPs] at e
        cases q : toP d with
        | none => rw [q] at e; cases e
        | some p =>
          cases q2 : toPs ds with
          | none => rw [q, q2] at e; cases e
          | some qs =>
            rw [q, q2] at e
            cases e
            rw [List.map_cons, ih _ q2, dP, q]
            rfl
    · intro p hp p' hp'
      simp only [alikeDs, List.all_eq_true] at h1
      exact h1 p hp p' hp'
    · rcases h2 with h2 | h2
      · refine .inl fun p hp => ?_
        have := h2 p hp
        unfold tupNE at this
        split at this
        · exact ⟨_, _, rfl⟩
        · cases this
      · refine .inr fun p hp => ?_
        have := h2 p hp
        unfold plainP at this
        split at this
        · cases this
        · cases this
        · rename_i n1 n2
          exact ⟨n1, n2⟩
  · cases h
theorem rvs_pairs : ∀ {l : List (D × V)}, (∀ b ∈ l, RV K g ρ H b.1 b.2) → RVs K g ρ H (l.map (·.1)) (l.map (·.2))
  | [], _ => by rw [List.map_nil, List.map_nil, rvs_nil]
  | b :: l, h => by
    rw [List.map_cons, List.map_cons, rvs_cons]
    exact ⟨_, _, rfl, h b List.mem_cons_self, rvs_pairs fun c hc => h c (List.mem_cons_of_mem _ hc)⟩
theorem pairs_rvs : ∀ {ds : List D} {vs : List V}, RVs K g ρ H ds vs → ∀ b ∈ ds.zip vs, RV K g ρ H b.1 b.2
  | [], _, _, b, hb => by simp at hb
  | d :: ds, vs, r, b, hb => by
    rw [rvs_cons] at r
    obtain ⟨v, t, e, h1, h2⟩ := r
    subst e
    rw [List.zip_cons_cons] at hb
    rcases List.mem_cons.mp hb with rfl | hb
    · exact h1
    · exact pairs_rvs h2 b hb
theorem each_vals : ∀ {ds : List D} {vs : List V} {us : List Value}, ds.length = vs.length → Vals vs us → PySem.W.EachIs (fun (u : Value) (b : D × V) => RelV b.2 u) us (ds.zip vs)
  | [], [], _, _, .nil => .nil
  | _ :: _, _ :: _, _, hl, .cons h t => by
    rw [List.zip_cons_cons]
    exact .cons h (each_vals (by simpa using hl) t)
theorem vals_each : ∀ {bs : List (D × V)} {us : List Value}, PySem.W.EachIs (fun (u : Value) (b : D × V) => RelV b.2 u) us bs → Vals (bs.map (·.2)) us
  | _, _, .nil => .nil
  | _, _, .cons h t => .cons h (vals_each t)
theorem each_reads {h : Heap} : ∀ {ds : List D} {vs : List V} {us : List Value} {as : List Addr}, ds.length = vs.length → vs.length = us.length → ReadsAll h us (ds.map dP) as → PySem.W.EachIs (fun (u : Value) (b : D × V) => ∃ as, Reads h u (dP b.1) as) us (ds.zip vs)
  | [], [], [], _, _, _, _ => .nil
  | d :: ds, v :: vs, u :: us, _, h1, h2, r => by
    rw [List.map_cons] at r
    cases r with
    | cons a b =>
      rw [List.zip_cons_cons]
      exact .cons ⟨_, a⟩ (each_reads (by simpa using h1) (by simpa using h2) b)
  | [], [], _ :: _, _, _, h2, _ => by simp at h2
  | [], _ :: _, _, _, h1, _, _ => by simp at h1
  | _ :: _, [], _, _, h1, _, _ => by simp at h1
  | _ :: _, _ :: _, [], _, _, h2, _ => by simp at h2
theorem map_zip_dP : ∀ {ds : List D} {vs : List V}, ds.length = vs.length → (ds.zip vs).map (fun b => dP b.1) = ds.map dP
  | [], [], _ => rfl
  | _ :: _, _ :: _, h => by rw [List.zip_cons_cons, List.map_cons, List.map_cons, map_zip_dP (by simpa using h)]
  | [], _ :: _, h => by simp at h
  | _ :: _, [], h => by simp at h
/-- the sorted pairs, as a list of values that answers to the sorted data -/
theorem sort_rvs {ds : List D} {vs : List V} {out : List Value} (r : RVs K g ρ H ds vs) (e : PySem.W.EachIs (fun (u : Value) (b : D × V) => RelV b.2 u) out ((ds.zip vs).mergeSort (PySem.W.dataLe false fun b => dP b.1))) :
    ∃ vs', Vals vs' out ∧ RVs K g ρ H (ds.mergeSort leD') vs' := by
  refine ⟨_, vals_each e, ?_⟩
  have e1 : ds.mergeSort leD' = ((ds.zip vs).mergeSort (PySem.W.dataLe false fun b => dP b.1)).map (·.1) := by
    rw [List.map_mergeSort (r := PySem.W.dataLe false fun b : D × V => dP b.1) (s := leD') (fun a _ b _ => rfl), List.map_fst_zip (by rw [r.length]; exact Nat.le_refl _)]
  rw [e1]
  exact rvs_pairs fun b hb => pairs_rvs r b ((List.mergeSort_perm _ _).mem_iff.mp hb)
/-- sort() of a new list: what it holds may read off the heap ahead of it -/
theorem sort_fresh {prog : Program} {w : World} {A : Around} {E : Value → Shared → Prop} {s : Shared} {β : Type} {vs : List Value} {bs : List β} {enc : β → PyData} {R : Value → β → Prop} {h0 : Heap} {a : Addr} {n : Nat} {Q : Value → Shared → Prop}
    (k : ∀ b o, h0.get? b = some o → b ≠ a ∧ s.heap.get? b = some o) (ho : s.heap.get? a = some (PyProof.Rows.seqObj "list" vs.toArray n)) (e : PySem.W.EachIs R vs bs) (er : PySem.W.EachIs (fun v b => ∃ as, Reads h0 v (enc b) as) vs bs) (hal : PySem.W.AllAlike (bs.map enc)) (hk : PySem.W.Sortable (bs.map enc)) (hL : bs.length ≤ sizeLine)
    (hu : ∀ b, b ∈ bs → A.units + 1 + (enc b).depth < cLine) (h : ∀ out, out.length = bs.length → PySem.W.EachIs R out (bs.mergeSort (PySem.W.dataLe false enc)) → Q .none { s with heap := PyProof.Rows.sortedHeap s.heap a vs (List.toArray out) }) :
    wpAny (model prog w) A (call (.builtin "list.sort") [.ref a]) Q E s := by
  have er' : PySem.W.EachIs (fun v b => ∃ as, Reads (PySem.W.sortingHeap s.heap a vs) v (enc b) as) vs bs := er.mono fun _ _ ⟨as, r⟩ => ⟨as, PyProof.Rows.Reads.keeps (fun b o q => PySem.W.sortingHeap_old (k b o q).1 (k b o q).2) r⟩
  refine wpAny_call_entry PyProof.Rows.slot_list_sort ⟨_, ho, rfl⟩ PyProof.Rows.entry_list_sort (PySem.W.list_sort_vals (κ := PySem.W.dataKind (PySem.W.sortingHeap s.heap a vs) (bs.map enc)) ho (PySem.W.SortsAt.data (s := { s with heap := PySem.W.sortingHeap s.heap a vs }) (PySem.W.each_map (R := fun v d => ∃ as, Reads (PySem.W.sortingHeap s.heap a vs) v d as) enc er') hal hk (PySem.W.bound_map hu)) (by rw [e.length]; exact hL) ⟨.none, rfl, ?_⟩) (PyProof.Rows.args_list_sort _)
  exact h _ (by rw [PySem.W.sortVals_length false rfl]; exact e.length) (PySem.W.sortVals_data false e er' hal)
/-- sorted(list) -/
def rSortS (K : PySem.W.Frag) (g : Gm) : List V → Hp → VK → Prop := fun xs H Q => ∃ ρ p ds vs, xs = [.ref p] ∧ SqL K H p vs ∧ RVs K g ρ H ds vs ∧ sortOk ds = true ∧ ∀ l vs', H l = none → RVs K g ρ H (ds.mergeSort leD') vs' → Q (.ref l) (upd H l (.lst vs'))
theorem cr_sortS (hu : X.A.units + 64 < cLine) : CallR X (.builtin "sorted") (rSortS X.K g) := by
  rintro pins s σ H xs us Q I rr ⟨ρ, p, ds, vs, rfl, s1, r1, ok, q⟩
  obtain ⟨u, rfl, rx⟩ := vals1 rr
  cases rx
  obtain ⟨ps, e1, e2, al, so, dp⟩ := sortOk_ok ok
  subst e2
  obtain ⟨its, rv, pl, hz⟩ := I.list s1
  have hl : ds.length = vs.length := r1.length.symm
  obtain ⟨as, rd⟩ := Dp.readsAll I _ vs its (dps_of r1 e1) rv
  refine PySem.W.sorted_data pl.isList (each_vals hl rv) (each_reads hl rv.length rd) (by rw [map_zip_dP hl]; exact al) (by rw [map_zip_dP hl]; exact so) (by simp; omega) (fun b hb => ?_) fun out ho eo => ?_
  · have h1 : dP b.1 ∈ ds.map dP := by
      rw [← map_zip_dP hl]
      exact List.mem_map.mpr ⟨b, hb, rfl⟩
    have := dp _ h1
    omega
  · obtain ⟨vs', v1, v2⟩ := sort_rvs r1 eo
    obtain ⟨ep, he'⟩ := PyProof.Rows.sortedAll_at s.heap its out.toArray
    have hlen : vs'.length ≤ sizeLine := by rw [v1.length, ho]; simp; omega
    exact ⟨.ref _, upd H (s.heap.objs.size + 1) (.lst vs'), I.laid (t' := s.toks) (fun _ _ => PyProof.Rows.sortedAll_old) (Nat.le_succ _) ⟨hlen, out, ep, v1, he'⟩, rfl, q _ vs' (I.hok.fresh (Nat.le_succ _)) v2⟩
/-- what a dict's keys, collected, are -/
theorem collect_keys {pins : List (Addr × Obj)} {s : Shared} {A : Around} {E : Value → Shared → Prop} {R : List Value → Shared → Prop} (I : Inv X pins σ H s) (hh : A.handled = none) (mr : MR X.K g ρ M H) {d : D} {a : Addr} {xs : List D} (r : RV X.K g ρ H d (.ref a)) (e : keysD M d = some xs)
    (h : ∀ h' tk vs us, (∀ b o, s.heap.get? b = some o → h'.get? b = some o) → RVs X.K g ρ H xs vs → Vals vs us → us.length ≤ sizeLine → R us { s with heap := h', toks := tk }) : wpAny (model X.prog X.w) A (collect (.ref a)) R E s := by
  unfold keysD at e
  split at e
  · rename_i n
    rw [rv_ref] at r
    obtain ⟨a', e2, e3⟩ := r
    cases e3
    split at e
    · rename_i kvs ek
      cases e
      obtain ⟨kvs', h1, h2⟩ := mr.obj _ _ _ e2 ek
      obtain ⟨z, lo, vs, rel, dd⟩ := dk_rd I.hok (.inl h1)
      obtain ⟨ep, hat⟩ := dd.dictAt
      have hl : kvs'.length = vs.length := rel.length
      refine PySem.W.kdu_collect (PySem.W.kdl_dict (knd := mixKind X.prog X.w) (kvs := vs) (ep := ep) lo) hh hat (by rw [← hl]; exact z) fun h' tk acc hk hacc => ?_
      have hv : Vals (vs.map fun p => kV p.1) acc.toList := keys_at (by rw [Array.length_toList]; exact hacc.1) fun j v e => hacc.2 j v (by rw [← Array.getElem?_toList]; exact e)
      refine h h' tk (kvs'.map fun kv => kV kv.1) acc.toList hk ?_ ?_ ?_
      · rw [h2.keysEq keyD]
        have e3 : (kvs'.map fun kv => keyD kv.1) = (kvs'.map (·.1)).map keyD := by rw [List.map_map]; rfl
        have e4 : (kvs'.map fun kv => kV kv.1) = (kvs'.map (·.1)).map kV := by rw [List.map_map]; rfl
        rw [e3, e4]
        exact rvs_keys _
      · have e := congrArg (List.map kV) rel.keys
        rw [List.map_map, List.map_map] at e
        have e5 : (kvs'.map fun kv => kV kv.1) = vs.map fun p => kV p.1 := e
        rw [e5]
        exact hv
      · rw [Array.length_toList, hacc.1, ← hl]; exact z
    · rename_i kvs ek
      cases e
      obtain ⟨kvs', h1, h2⟩ := mr.obj _ _ _ e2 ek
      obtain ⟨z, hs, ks, pr, o, es, ep, ho, hx, hdt, he, hn⟩ := (show ObjOk X.prog X.w H s.heap a (.dT kvs') from I.hok a _ h1)
      have l1 : es.size = ks.length := size_of_entries he
      have l2 : kvs'.length = ks.length := Paired.length pr
      refine PySem.W.kdu_collect (kdl_raw hs hx hdt) hh ho (by omega) fun h' tk acc kp it => ?_
      have ea : acc.toList = ks.map fun x => Value.ref x.2.1 := by
        have hl : acc.toList.length = ks.length := by rw [Array.length_toList, it.1]; exact l1
        apply List.ext_getElem?
        intro j
        rw [List.getElem?_map]
        cases hj : acc.toList[j]? with
        | none =>
          have h1 := List.getElem?_eq_none_iff.mp hj
          rw [List.getElem?_eq_none (by omega)]
          all_goals rfl
        | some v =>
          obtain ⟨en, hen, hv⟩ := it.2 j v (by rw [← Array.getElem?_toList]; exact hj)
          have qe := entry_at he j
          rw [hen] at qe
          cases hb : ks[j]? with
          | none =>
            rw [hb] at qe
            exact nomatch (show some en = none from qe)
          | some b =>
            rw [hb] at qe
            have e2 : en = entryOfKey (tupleKind (mixKind X.prog X.w)) b := Option.some.inj qe
            rw [hv, e2]
            all_goals rfl
      have eb : acc.toList = (ks.map fun x => x.2.1).map Value.ref := by rw [ea, List.map_map]; all_goals rfl
      have rv : Vals ((ks.map fun x => x.2.1).map V.ref) acc.toList := by rw [eb]; exact vals_refs _
      refine h h' tk _ acc.toList kp ?_ rv (by rw [Array.length_toList, it.1]; omega)
      rw [h2.keysEq fun k => D.tup (k.map keyD)]
      exact rvs_tkeys (isKeys_of pr)
    · cases e
  · cases e
/-- sorted(dict) -/
def rSortK (K : PySem.W.Frag) (g : Gm) : List V → Hp → VK → Prop := fun xs H Q => ∃ ρ M d a ds, xs = [.ref a] ∧ MR K g ρ M H ∧ RV K g ρ H d (.ref a) ∧ keysD M d = some ds ∧ sortOk ds = true ∧ ∀ l vs', H l = none → RVs K g ρ H (ds.mergeSort leD') vs' → Q (.ref l) (upd H l (.lst vs'))
theorem cr_sortK (hc : X.calm = true) (hu : X.A.units + 64 < cLine) : CallR X (.builtin "sorted") (rSortK X.K g) := by
  rintro pins s σ H xs us Q I rr ⟨ρ, M, d, a, ds, rfl, mr, r, ek, ok, q⟩
  obtain ⟨u, rfl, rx⟩ := vals1 rr
  cases rx
  obtain ⟨ps, e1, e2, al, so, dp⟩ := sortOk_ok ok
  subst e2
  refine Calls.call_function_entry PyProof.Rows.kind_sorted PyProof.Rows.plain_sorted PyProof.Rows.entry_sorted (PyProof.Rows.args_sorted1 _) ?_
  unfold Builtin.«sorted»
  refine wpAny_bind (m := checkCount "sorted" 1 1 _) (wpAny_pure ?_)
  refine wpAny_bind (collect_keys (A := X.A.in1) I (I.ok.hd hc) mr r ek fun h' tk vs us hk r1 rv hz => ?_)
  have I1 : Inv X pins σ H { s with heap := h', toks := tk } := I.kept hk
  have hl : ds.length = vs.length := r1.length.symm
  obtain ⟨as, rd⟩ := Dp.readsAll I1 _ vs us (dps_of r1 e1) rv
  have hlu := rv.length
  refine wpAny_bind (wpAny_newList ?_ hz)
  have hoL : (h'.push (PyProof.Rows.seqObj "list" us.toArray 0)).get? h'.objs.size = some (PyProof.Rows.seqObj "list" us.toArray 0) := Heap.get?_push_size _ rfl
  show wpAny _ _ _ _ _ { s with heap := h'.push (PyProof.Rows.seqObj "list" us.toArray 0), toks := tk }
  refine wpAny_bind (wpAny_holding (sort_fresh (h0 := h') (s := { s with heap := h'.push (PyProof.Rows.seqObj "list" us.toArray 0), toks := tk }) (fun b o e => ⟨Nat.ne_of_lt (Heap.lt_size e), Heap.get?_push_of_some _ e⟩) hoL (each_vals hl rv) (each_reads hl rv.length rd) (by rw [map_zip_dP hl]; exact al) (by rw [map_zip_dP hl]; exact so) (by simp; omega) (fun b hb => ?_) fun out ho eo => ?_))
  · have h1 : dP b.1 ∈ ds.map dP := by
      rw [← map_zip_dP hl]
      exact List.mem_map.mpr ⟨b, hb, rfl⟩
    have := dp _ h1
    show X.A.units + 1 + 1 + _ < cLine
    omega
  · obtain ⟨vs', v1, v2⟩ := sort_rvs r1 eo
    obtain ⟨e', he'⟩ := PyProof.Rows.sortedHeap_at (vs := us) (out := out.toArray) hoL
    have hlen : vs'.length ≤ sizeLine := by rw [v1.length, ho]; simp; omega
    refine wpAny_pure ⟨_, rfl, .ref h'.objs.size, upd H h'.objs.size (.lst vs'), I1.laid (t' := tk) (fun b u e => ?_) (Nat.le_refl _)
      (show ObjOk X.prog X.w _ _ _ (.lst vs') from ⟨hlen, out, e', v1, he'⟩), rfl, q _ vs' (I1.hok.fresh (Nat.le_refl _)) v2⟩
    have hb : b < h'.objs.size := Heap.lt_size e
    rw [PyProof.Rows.sortedHeap_old (Nat.ne_of_lt hb) (by rw [PyProof.Rows.size_push']; exact Nat.lt_succ_of_lt hb)]
    exact Heap.get?_push_of_some _ e
theorem dc_sorted (fz : Bool) (hc : X.calm = true) (hu : X.A.units + 64 < cLine) : DC X g (.builtin "sorted") (sortedD fz) := by
  rintro pins s σ H xs us Q I rr ⟨ρ, M, ds, mr, r, h⟩
  unfold sortedD at h
  have fin : ∀ (d : D) (ys : List D), pOk X.K g (RV X.K g) ρ M H (sortL fz ys M) Q → sortOk ys = true ∧ ∀ l vs', H l = none → RVs X.K g ρ H (ys.mergeSort leD') vs' → qFz Q (.ref l) (upd H l (.lst vs')) := fun d ys h => by
    unfold sortL at h
    split at h
    · rename_i ok
      exact ⟨ok, fun l vs' hl rv => mkL_ok mr hl rv h⟩
    · exact h.elim
  split at h
  · rename_i d
    obtain ⟨v, rfl, r1⟩ := rvs1 r
    split at h
    · rename_i ys e1
      obtain ⟨p, vs, rfl, s1, q1⟩ := getS_ok mr e1 r1
      obtain ⟨ok, k⟩ := fin d ys h
      exact callR_fz (cr_sortS (g := g) hu) pins s σ H _ us Q I rr ⟨ρ, p, ys, vs, rfl, s1, q1, ok, k⟩
    · split at h
      · rename_i ys e1
        obtain ⟨ok, k⟩ := fin d ys h
        obtain ⟨a, rfl⟩ : ∃ a, v = .ref a := by
          unfold keysD at e1
          split at e1
          · rw [rv_ref] at r1
            obtain ⟨a, _, e⟩ := r1
            exact ⟨a, e⟩
          · cases e1
        exact callR_fz (cr_sortK (g := g) hc hu) pins s σ H _ us Q I rr ⟨ρ, M, d, a, ys, rfl, mr, r1, e1, ok, k⟩
      · exact h.elim
  · exact h.elim
end
end
end Dl

set_option Elab.async false
set_option linter.all false
set_option autoImplicit false
set_option maxRecDepth 100000
set_option maxHeartbeats 4000000
/-! The D-layer: dict comprehensions with keys of either kind (the reading and the walk follow L2.pe_dc, which has ints and texts alone). -/
namespace Dl
open PySem PySem.Spec PyProof.Rows L2

/-- a comprehension's store, a key of either kind -/
theorem put_any {X : Cx} {pins : List (Addr × Obj)} {σ : L2.St} {H H' : Hp} {s : Shared} {E : Value → Shared → Prop} {D : Addr} {y v : V} {u r : Value} {Q : Unit → Shared → Prop} (hu : X.A.units + 1 < cLine) (I : Inv X pins σ H s) (p : DPut H D y v H') (ry : RelV y u) (rv : RelV v r)
    (h : ∀ s', Inv X pins σ H' s' → Q () s') : wpAny (model X.prog X.w) X.A (dictSet D u r) Q E s := by
  rcases p with ⟨kvs, k, e, ey, l, eH⟩ | ⟨kvs, k, b, e, ey, eb, l, eH⟩
  · subst ey eH
    exact d_dictSet I e l ry rv h
  · subst ey eH
    cases (show u = Value.ref b from ry)
    obtain ⟨z, hd, xs, rel, dd⟩ := dt_of I.hok e
    have hz : xs.length ≤ sizeLine := by rw [← Paired.length rel]; exact z
    refine wpAny_dictSet_heap (hsz := hz) (show X.A.units < cLine by omega) (key_of I.hok eb) dd fun h' dd' hs => h _ ?_
    obtain ⟨o, es, ep, h1, h2, h3, h4, h5, h6⟩ := dd'
    refine d_write I (by rw [e]; exact True.intro) hs ⟨o, h1⟩ ⟨?_, hd, storedH xs k b r, KT.keeps (rel.put k eb rv) (fun c ys q => ?_), o, es, ep, h1, h2, h3, h4, h6⟩
    · have := length_putK kvs k v; omega
    · rw [upd_ne (ne_of q e (fun z => nomatch z))]
      exact q
/-- o0: the new dict, .dK [] or .dT [] -/
def tDcA (o0 : HO) (wi : TI) (g : TG) (tt : TT) (tk tv : TE) (vs : List Nat) : TE := fun σ H Q => wi σ H fun J H1 => ∀ D, H1 D = none → ∃ Wp : Nat → Nat → Hp → Prop, (∃ m, Wp 0 m (upd H1 D o0)) ∧ ∀ i m H, Wp i m H →
  (J.stop i H ∧ Q (.ref D) H) ∨ (J.go i H ∧ ∃ Nx : Hp → Prop, (∀ H', Nx H' → ∃ m', m' < m ∧ Wp (i + 1) m' H') ∧ ∀ x H', J.yld i H x H' → g x (L2.wipe σ vs) H' fun σ2 H2 => L2.wipe σ2 vs = L2.wipe σ vs ∧ tt σ2 H2 fun b H3 =>
    if b = true then tk σ2 H3 fun y H4 => tv σ2 H4 fun z H5 => ∃ H6, DPut H5 D y z H6 ∧ Nx H6 else Nx H3)
section
variable {X : Cx}
theorem dcA {kx vx tg iter : Expr} {ifs : List Expr} {scope : Scope} {own : List (Str × Nat)} {pos : Pos} {o0 : HO} {wi : TI} {g : TG} {tt : TT} {tk tv : TE} (ho0 : o0 = .dK [] ∨ o0 = .dT []) (hu : X.A.units + 1 < cLine) (hc : X.calm = true) (hN : X.N.Nodup) (hi : PI X tg iter wi) (ok : BlkOk X.N X.env.scope scope own)
    (hg : ∀ (s : Shared) (H : Hp) (C : Addr) (cl : List (Str × Addr)) (fp : List Addr), PG (X.blk s H scope (compEnvC scope cl C X.env) fp) tg g)
    (ht : ∀ (s : Shared) (H : Hp) (C : Addr) (cl : List (Str × Addr)) (fp : List Addr), PTs (X.blk s H scope (compEnvC scope cl C X.env) fp) ifs tt)
    (hk : ∀ (s : Shared) (H : Hp) (C : Addr) (cl : List (Str × Addr)) (fp : List Addr), PE (X.blk s H scope (compEnvC scope cl C X.env) fp) kx tk)
    (he : ∀ (s : Shared) (H : Hp) (C : Addr) (cl : List (Str × Addr)) (fp : List Addr), PE (X.blk s H scope (compEnvC scope cl C X.env) fp) vx tv) (hs : ∀ x, foldedSetIterable iter X.env x = pure x := by intro _; rfl) :
    PE X (.DictComp kx vx [⟨tg, iter, ifs, 0⟩] scope pos) (tDcA o0 wi g tt tk tv (own.map (·.2))) := by
  refine ⟨fun pins s σ H Q I h => ?_⟩
  rw [arm_eval_DictComp]
  have clo : ∀ y ∈ scope.names, y.2 = .free → ∃ c, X.env.cells.lookup y.1 = some c := fun y hy e => (ok.free y hy e).elim (fun k => I.ok.has _ (.inl k)) fun k => I.ok.has _ (.inr k)
  refine wpAny_comprehension_free (use := none) rfl hs (closure_ok clo) ok.kind (fun y hy e => by rw [ok.uniq y hy, e]) (thn (hi.run pins s σ H _ I h) fun xv s1 hx => thn hx fun itv s2 h2 => ?_)
  obtain ⟨it, fp, tn, J, G2, rfl, I2, T, t2, f2, q⟩ := h2
  refine wpAny_newObj_type (newEnv_comp ?_)
  obtain ⟨D, hD⟩ : ∃ D, D = s2.heap.objs.size := ⟨_, rfl⟩
  obtain ⟨Wp, ⟨m0, w0⟩, turn⟩ := q D (I2.hok.fresh (Nat.le_of_eq hD.symm))
  -- the dict is laid, still empty
  obtain ⟨s3, h3⟩ : ∃ s3 : Shared, s3 = { s2 with heap := s2.heap.push { cls := .type "dict", data := .dict #[] } } := ⟨_, rfl⟩
  have h3' : s3.heap = s2.heap.push { cls := .type "dict", data := .dict #[] } := by rw [h3]
  have I3 : Inv X pins σ (upd G2 D o0) s3 := by
    rw [h3]
    refine I2.laid (t' := s2.toks) (fun b o e => Heap.get?_push_of_some _ e) (Nat.le_of_eq hD.symm) ?_
    rw [hD]
    rcases ho0 with e | e
    · rw [e]; exact dk_empty s2.heap I2.big
    · rw [e]; exact dt_empty s2.heap I2.big
  have fpLt : ∀ b ∈ fp, b < s2.heap.objs.size := fun b hb => let ⟨o, e, _⟩ := T.obj _ _ t2 b hb; Heap.lt_size e
  have fp3 : ∀ b ∈ fp, FpOk X pins (upd G2 D o0) b ∧ b < s3.heap.objs.size := fun b hb => by
    have hlt := fpLt b hb
    refine ⟨⟨?_, (f2 b hb).2⟩, by rw [h3', Heap.size_push]; exact Nat.lt_succ_of_lt hlt⟩
    rw [upd_ne (by rw [hD]; exact Nat.ne_of_lt hlt)]
    exact (f2 b hb).1
  have t3 : tn 0 s3.heap := T.keep _ _ _ t2 fun b _ o e => by rw [h3']; exact Heap.get?_push_of_some _ e
  have I4 := block_start I3 ok hN fp3
  rw [← hD, ← h3']
  have back : ∀ C s' m H', Inv X pins σ H' s' → Q (.ref D) H' → s'.heap.Ns C m → FpOk X pins H' C → compPost (model X.prog X.w) X.A X.xe none (EP X pins σ Q) (.ref D) C (.ok .next) s' := fun C s' m H' I' q hn f =>
    ⟨m, hn, fun h'' sb => ⟨.ref D, H', I'.turned (t' := s'.toks) (fun b o hb e => (sb.2 b hb).trans e) f.1 f.2.1 f.2.2.2.1 f.2.2.2.2.1 f.2.2.2.2.2, rfl, q⟩⟩
  have B1 := hg s3 (upd G2 D o0) s3.heap.objs.size (cellsFrom (s3.heap.objs.size + 1) scope.names (cloFrom X.env.cells scope.names [])) fp
  have B2 := ht s3 (upd G2 D o0) s3.heap.objs.size (cellsFrom (s3.heap.objs.size + 1) scope.names (cloFrom X.env.cells scope.names [])) fp
  have B3 := hk s3 (upd G2 D o0) s3.heap.objs.size (cellsFrom (s3.heap.objs.size + 1) scope.names (cloFrom X.env.cells scope.names [])) fp
  have B4 := he s3 (upd G2 D o0) s3.heap.objs.size (cellsFrom (s3.heap.objs.size + 1) scope.names (cloFrom X.env.cells scope.names [])) fp
  have hub : ∀ H3 ce, (X.blk s3 H3 scope ce fp).A.units + 1 < cLine := fun _ _ => hu
  obtain ⟨ce, hce⟩ : ∃ ce, ce = compEnvC scope (cellsFrom (s3.heap.objs.size + 1) scope.names (cloFrom X.env.cells scope.names [])) s3.heap.objs.size X.env := ⟨_, rfl⟩
  have cL : ce.locals = s3.heap.objs.size := by rw [hce]; rfl
  obtain ⟨H3, eH3⟩ : ∃ H3, H3 = upd G2 D o0 := ⟨_, rfl⟩
  rw [← hce, ← eH3] at I4 B1 B2 B3 B4
  rw [← eH3] at I3 w0 fp3
  have free3 : ∀ b ∈ fp, H3 b = none := fun b hb => (fp3 b hb).1.1
  have eA : ({ s2 with heap := s3.heap } : Shared) = s3 := by rw [h3]
  have start : codeAny (model X.prog X.w) X.A (.compStart (.DictComp kx vx [⟨tg, iter, ifs, 0⟩] scope pos) 0 (.ref it) (.ref D) ce) (compPost (model X.prog X.w) X.A X.xe none (EP X pins σ Q) (.ref D) s3.heap.objs.size)
      { s3 with heap := pushCells (s3.heap.push { cls := .type "dict", data := .dict #[] }) scope.names } := by
    obtain ⟨s4, h4⟩ : ∃ s4 : Shared, s4 = { s3 with heap := pushCells (s3.heap.push { cls := .type "dict", data := .dict #[] }) scope.names } := ⟨_, rfl⟩
    rw [← h4] at I4 ⊢
    have t4 : tn 0 s4.heap := T.keep _ _ _ t3 fun b _ o e => by rw [h4]; exact pushCells_keeps _ _ _ _ (Heap.get?_push_of_some _ e)
    have fpN : ∀ {τ : L2.St} {H' : Hp} {s' : Shared}, Inv (X.blk s3 H3 scope ce fp) [] τ H' s' → (∀ b ∈ fp, H' b = none) → ∀ b ∈ fp, FpOk (X.blk s3 H3 scope ce fp) [] H' b := fun {τ H' s'} I' hn b hb =>
      ⟨hn b hb, (I'.ok.exf b hb).1, I'.ok.exfs b hb, .inl hb, fun x c e => (I'.ok.exf b hb).2 x c e, fun p hp => absurd (show p ∈ ([] : List (Addr × Obj)) ++ [] from hp) (by simp)⟩
    have loop : codeAny (model X.prog X.w) X.A (.compLoop (.DictComp kx vx [⟨tg, iter, ifs, 0⟩] scope pos) 0 (.ref it) (.ref D) ce) (compPost (model X.prog X.w) X.A X.xe none (EP X pins σ Q) (.ref D) s3.heap.objs.size) s4 := by
      refine compLoop_anyD (fun n s' => ∃ i H', Inv (X.blk s3 H3 scope ce fp) [] (L2.wipe σ (own.map (·.2))) H' s' ∧ tn i s'.heap ∧ (∀ b ∈ fp, H' b = none) ∧ Wp i n H') ?_ m0 ⟨0, H3, I4, t4, free3, w0⟩
      rintro n s5 ⟨i, H5, I5, t5, n5, w5⟩
      rcases turn i n H5 w5 with ⟨stop, fin⟩ | ⟨go, Nx, hNx, step⟩
      · refine thnF (T.done (X.blk s3 H3 scope ce fp) rfl rfl rfl hc i [] s5 _ H5 (fun _ _ => False) I5 (fpN I5 n5) t5 stop) fun r s6 ⟨hr, I6⟩ => ?_
        subst hr
        have I7 : Inv X pins σ H5 s6 := I3.call' (ch := fp) I6.os I6.base I6.hok I6.bare fun b hb => ⟨(fp3 b hb).1.2.2.2.1, (fp3 b hb).1.2.1, (fp3 b hb).1.2.2.2.2.1, (fp3 b hb).1.2.2.2.2.2⟩
        have nC : H5 s3.heap.objs.size = none := cL ▸ (show H5 ce.locals = none from I6.free)
        obtain ⟨m, hn, _⟩ := I6.loc
        exact back s3.heap.objs.size s6 m H5 I7 fin (cL ▸ (show s6.heap.Ns ce.locals m from hn)) (I3.fpOk (Nat.le_refl _) nC)
      · refine thnF (T.item (X.blk s3 H3 scope ce fp) rfl rfl rfl hc i [] s5 _ H5 (fun _ _ => False) I5 (fpN I5 n5) t5 go) fun r s6 ⟨u, hr, h6⟩ => ?_
        subst hr
        refine thnF h6 fun _ s7 ⟨x, H7, I7, r7, y7, t7, n7⟩ => ?_
        refine thnF (B1.run _ s7 _ H7 x u _ (I7.pinned (fpN I7 n7) (T.obj _ _ t7)) r7 (step x H7 y7)) fun _ s8 ⟨σ8, H8, I8, w8, q8⟩ => ?_
        refine thnF (B2.run _ s8 σ8 H8 _ I8 q8) fun b s9 ⟨H9, I9, q9⟩ => ?_
        have again : ∀ {s' : Shared} {H' : Hp}, Inv (X.blk s3 H3 scope ce fp) ([] ++ pinsAt fp s7.heap) σ8 H' s' → Nx H' → ∃ m, m < n ∧ ∃ i H', Inv (X.blk s3 H3 scope ce fp) [] (L2.wipe σ (own.map (·.2))) H' s' ∧ tn i s'.heap ∧ (∀ b ∈ fp, H' b = none) ∧ Wp i m H' := fun {s' H'} I' nx => by
          obtain ⟨m', hm, w'⟩ := hNx H' nx
          have pin : ∀ b ∈ fp, ∀ o, s7.heap.get? b = some o → s'.heap.get? b = some o ∧ H' b = none := fun b hb o e =>
            ⟨(I'.pin (b, o) (List.mem_append_right _ (List.mem_append_right _ (mem_pinsAt hb e)))).1, (I'.pin (b, o) (List.mem_append_right _ (List.mem_append_right _ (mem_pinsAt hb e)))).2.1⟩
          refine ⟨m', hm, i + 1, H', (I'.unpinned (pins := [])).weak (by rw [← w8, wipe_length]) (fun j v e => (wipe_some (by rw [w8]; exact e)).1), T.keep _ _ _ t7 fun b hb o e => (pin b hb o e).1, fun b hb => ?_, w'⟩
          obtain ⟨o, e, _⟩ := T.obj _ _ t7 b hb
          exact (pin b hb o e).2
        cases b with
        | false =>
          rw [if_neg Bool.false_ne_true] at q9
          exact again I9 q9
        | true =>
          rw [if_pos rfl] at q9
          refine thnF (B3.run _ s9 σ8 H9 _ I9 q9) fun z s10 ⟨yk, H10, I10, r10, q10⟩ => ?_
          refine thnF (B4.run _ s10 σ8 H10 _ I10 q10) fun z2 s11 ⟨yv, H11, I11, r11, H12, dp, nx⟩ => ?_
          exact put_any (X := X.blk s3 H3 scope ce fp) (hub H3 ce) I11 dp r10 r11 fun s12 I12 => again I12 nx
    exact codeAny_compStart_dict loop (T.self X.A 0 _ _ _ t4 loop)
  rw [hce, h3] at start
  rw [h3']
  exact start
end
end Dl

set_option Elab.async false
set_option linter.all false
set_option autoImplicit false
set_option maxRecDepth 100000
set_option maxHeartbeats 4000000
/-! The D-layer: dicts made: comprehensions, displays, dict(pairs). -/
namespace Dl
noncomputable section
open PySem PySem.Spec L2

def dEmp (tk : Bool) : Ob := if tk then .dT [] else .dK []
def putO (o : Ob) (k v : D) : Option Ob := match o with
  | .dK kvs => match keyOf k with
    | some k => if decide (kvs.length < sizeLine) then some (.dK (putD kvs k v)) else none
    | none => none
  | .dT kvs => match tkeyOf k with
    | some k => if decide (kvs.length < sizeLine) then some (.dT (putD kvs k v)) else none
    | none => none
  | _ => none
def compD (gm : GG) (tt : TT') (kx vx : EE) (δ : Loc) : List D → Mem → Ob → Rs Ob
  | [], M, o => .ok o M
  | d :: ds, M, o => (gm d δ M).bindN fun δ2 M1 => (tt δ2 M1).bindN fun b M2 => if b then (kx δ2 M2).bindN fun k M3 => (vx δ2 M3).bindN fun v M4 => match putO o k v with
    | some o' => compD gm tt kx vx δ ds M4 o'
    | none => .no
    else compD gm tt kx vx δ ds M2 o
theorem compD_noex {gm : GG} {tt : TT'} {kx vx : EE} {δ : Loc} : ∀ {ds : List D} {M : Mem} {o : Ob} {e : Exn} {M' : Mem}, compD gm tt kx vx δ ds M o ≠ .ex e M'
  | [], _, _, _, _ => fun z => nomatch z
  | d :: ds, M, o, e, M' => by
    rw [compD]
    cases gm d δ M with
    | no => exact fun z => nomatch z
    | ex _ _ => exact fun z => nomatch z
    | ok δ2 M1 =>
      rw [Rs.bindN_ok]
      cases tt δ2 M1 with
      | no => exact fun z => nomatch z
      | ex _ _ => exact fun z => nomatch z
      | ok b M2 =>
        rw [Rs.bindN_ok]
        cases b with
        | false => exact compD_noex
        | true =>
          rw [if_pos rfl]
          cases kx δ2 M2 with
          | no => exact fun z => nomatch z
          | ex _ _ => exact fun z => nomatch z
          | ok y M3 =>
            rw [Rs.bindN_ok]
            cases vx δ2 M3 with
            | no => exact fun z => nomatch z
            | ex _ _ => exact fun z => nomatch z
            | ok v M4 =>
              rw [Rs.bindN_ok]
              split
              · exact compD_noex
              · exact fun z => nomatch z
def eDc (tk : Bool) (src : AA) (gm : GG) (tt : TT') (kx vx : EE) (own : List Nat) : EE := fun δ M => (src δ M).bind fun items M1 => (compD gm tt kx vx (wipeD δ own) items M1 (dEmp tk)).bind fun o M2 => .ok (.ref M2.length) (M2 ++ [o])
section
variable {X : Cx} {g : Gm} {W : WX} {K : PySem.W.Frag} {σ : L2.St} {H H' H1 : Hp} {ρ ρ' ρ1 : List Addr} {M M' M1 : Mem} {pos : Pos}
theorem mr_sideO {a : Addr} {u o : HO} (m : MR K g ρ M H) (h : ¬ Lv ρ M a) (hD : H a = some u) (n1 : ∀ xs, u ≠ .tup xs) (n2 : ∀ ob w, u ≠ .frz ob w) (n3 : ∀ φ, u ≠ .ext φ) (n4 : ∀ ps, u ≠ .tbl ps) : MR K g ρ M (upd H a o) ∧ Keep H (upd H a o) := by
  have k : Keep H (upd H a o) := by
    refine ⟨fun p xs e => ?_, fun p ob w e => ?_, fun p φ e => ?_⟩
    · rw [upd_ne]
      · exact e
      · rintro rfl
        rw [hD] at e
        cases e
        exact n1 _ rfl
    · rw [upd_ne]
      · exact e
      · rintro rfl
        rw [hD] at e
        cases e
        exact n2 _ _ rfl
    · rw [upd_ne]
      · exact e
      · rintro rfl
        rw [hD] at e
        cases e
        exact n3 _ rfl
  refine ⟨m.of_ext k (fun p ps e => ?_) fun n b e lv => upd_ne ?_, k⟩
  · rw [upd_ne]
    · exact e
    · rintro rfl
      rw [hD] at e
      cases e
      exact n4 _ rfl
  rintro rfl
  exact h ⟨n, e, lv⟩
/-- what lay beside the memory joins it -/
theorem join_at {a : Addr} {o : Ob} (x : Ext ρ M H ρ1 M1 H1) (l0 : ρ.length = M.length) (m : MR K g ρ1 M1 H1) (nl : ¬ Lv ρ1 M1 a) (h0 : H a = none) (r : RO K g ρ1 H1 a o) :
    Ext ρ M H (ρ1 ++ [a]) (M1 ++ [o]) H1 ∧ MR K g (ρ1 ++ [a]) (M1 ++ [o]) H1 := by
  have hne : ∀ (n : Nat) (b : Addr), ρ1[n]? = some b → Live M1 n → b ≠ a := fun n b e lv z => by subst z; exact nl ⟨n, e, lv⟩
  have oldL : ∀ n, n < ρ1.length → Live (M1 ++ [o]) n → Live M1 n := fun n hn ⟨o', e, l⟩ => by
    rw [List.getElem?_append_left (by rw [← m.len]; exact hn)] at e
    exact ⟨o', e, l⟩
  have oldA : ∀ (n : Nat) (b : Addr), n < ρ1.length → (ρ1 ++ [a])[n]? = some b → ρ1[n]? = some b := fun n b hn e => by
    rw [List.getElem?_append_left hn] at e; exact e
  have lastA : ∀ (n : Nat) (b : Addr), ¬ n < ρ1.length → (ρ1 ++ [a])[n]? = some b → n = ρ1.length ∧ b = a := fun n b hn e => by
    have h2 : n = ρ1.length := by
      have := (List.getElem?_eq_some_iff.mp e).1
      simp at this
      omega
    subst h2
    rw [List.getElem?_append_right (Nat.le_refl _)] at e
    simp at e
    exact ⟨rfl, e.symm⟩
  refine ⟨⟨x.pre.trans .snoc, x.kp, x.frame, x.there, fun n b hn e lv => ?_, fun n hn lv => ?_, ?_⟩, ⟨by simp [m.len], fun n b u e1 e2 => ?_, fun n k b e1 e2 l1 l2 => ?_, m.tab⟩⟩
  · by_cases hn1 : n < ρ1.length
    · exact x.new n b hn (oldA n b hn1 e) (oldL n hn1 lv)
    · obtain ⟨_, rfl⟩ := lastA n b hn1 e
      exact h0
  · exact x.old n hn (oldL n (by have := x.len; have := m.len; omega) lv)
  · have := x.len; simp; omega
  · by_cases hn1 : n < ρ1.length
    · rw [List.getElem?_append_left (by rw [← m.len]; exact hn1)] at e2
      exact (m.obj n b u (oldA n b hn1 e1) e2).mono .refl .snoc fun _ => rfl
    · obtain ⟨rfl, rfl⟩ := lastA n b hn1 e1
      rw [List.getElem?_append_right (by rw [m.len]; exact Nat.le_refl _)] at e2
      simp [m.len] at e2
      subst e2
      exact r.mono .refl .snoc fun _ => rfl
  · by_cases hn1 : n < ρ1.length
    · by_cases hk1 : k < ρ1.length
      · exact m.inj n k b (oldA n b hn1 e1) (oldA k b hk1 e2) (oldL n hn1 l1) (oldL k hk1 l2)
      · obtain ⟨_, rfl⟩ := lastA k b hk1 e2
        exact absurd rfl (hne n _ (oldA n _ hn1 e1) (oldL n hn1 l1))
    · obtain ⟨rfl, rfl⟩ := lastA n b hn1 e1
      by_cases hk1 : k < ρ1.length
      · exact absurd rfl (hne k _ (oldA k _ hk1 e2) (oldL k hk1 l2))
      · exact (lastA k _ hk1 e2).1.symm
def IsDo (o : Ob) : Prop := (∃ kvs, o = .dK kvs) ∨ ∃ kvs, o = .dT kvs
/-- a store into a dict that lies beside the memory -/
theorem put_side {a : Addr} {o o' : Ob} {k v : D} {k' v' : V} (m : MR K g ρ M H) (nl : ¬ Lv ρ M a) (r : RO K g ρ H a o) (rk : RV K g ρ H k k') (rv : RV K g ρ H v v') (e : putO o k v = some o') :
    ∃ H', DPut H a k' v' H' ∧ MR K g ρ M H' ∧ Keep H H' ∧ RO K g ρ H' a o' ∧ IsDo o' ∧ ∃ u, H' = upd H a u := by
  unfold putO at e
  split at e
  · rename_i kvs
    obtain ⟨kvs', h1, h2⟩ := r
    split at e
    · rename_i kk ek
      split at e
      · rename_i hz
        cases e
        have := keyOf_ok rk ek
        subst this
        obtain ⟨m2, k2⟩ := mr_sideO (o := .dK (putK kvs' kk v')) m nl h1 (fun _ z => nomatch z) (fun _ _ z => nomatch z) (fun _ z => nomatch z) (fun _ z => nomatch z)
        exact ⟨_, DPut.k h1 (by rw [KVr.length h2]; simpa using hz), m2, k2, ⟨_, upd_same, kvr_put kk (KVr.mono k2 .refl h2) (rv.mono k2 .refl)⟩, .inl ⟨_, rfl⟩, _, rfl⟩
      · cases e
    · cases e
  · rename_i kvs
    obtain ⟨kvs', h1, h2⟩ := r
    split at e
    · rename_i kk ek
      split at e
      · rename_i hz
        cases e
        obtain ⟨b, e3, s3⟩ := tkeyOf_ok rk ek
        subst e3
        obtain ⟨m2, k2⟩ := mr_sideO (o := .dT (putK kvs' kk v')) m nl h1 (fun _ z => nomatch z) (fun _ _ z => nomatch z) (fun _ z => nomatch z) (fun _ z => nomatch z)
        exact ⟨_, DPut.t h1 s3 (by rw [KVr.length h2]; simpa using hz), m2, k2, ⟨_, upd_same, kvr_put kk (KVr.mono k2 .refl h2) (rv.mono k2 .refl)⟩, .inr ⟨_, rfl⟩, _, rfl⟩
      · cases e
    · cases e
  · cases e
theorem ro_frame {a : Addr} {o : Ob} (d : IsDo o) (x : Ext ρ M H ρ1 M1 H1) (nl : ¬ Lv ρ M a) (r : RO K g ρ H a o) : RO K g ρ1 H1 a o := by
  refine r.mono x.kp x.pre fun l => ?_
  obtain ⟨u, e, _, _, _, _, _, nt⟩ := r.some l
  rw [x.frame a u e nl nt, e]
theorem IsDo.some {a : Addr} {o : Ob} (d : IsDo o) (r : RO K g ρ H a o) : ∃ u, H a = some u := by
  rcases d with ⟨kvs, rfl⟩ | ⟨kvs, rfl⟩
  · obtain ⟨_, h, _⟩ := r; exact ⟨_, h⟩
  · obtain ⟨_, h, _⟩ := r; exact ⟨_, h⟩
theorem nolv_of {a : Addr} {u : HO} (x : Ext ρ M H ρ1 M1 H1) (l0 : ρ.length = M.length) (nl : ¬ Lv ρ M a) (e : H a = some u) : ¬ Lv ρ1 M1 a := by
  rintro ⟨n, e1, lv⟩
  by_cases hn : n < ρ.length
  · have e0 := List.getElem?_eq_getElem hn
    have e2 := x.pre _ _ e0
    rw [e1] at e2
    cases e2
    exact nl ⟨n, e0, x.old n hn lv⟩
  · have := x.new n a (by omega) e1 lv
    rw [e] at this
    cases this
/-- the rest of a comprehension, from a state on -/
def dOk (K : PySem.W.Frag) (g : Gm) (ρ : List Addr) (M : Mem) (H : Hp) (r : Rs Ob) (Q : VK) : Prop := match r with
  | .ok o M2 => pOk K g (RV K g) ρ M H (.ok (.ref M2.length) (M2 ++ [o])) Q
  | _ => False
def hoOf (tk : Bool) : HO := if tk then .dT [] else .dK []
theorem ro_emp {a : Addr} {tk : Bool} : RO K g ρ (upd H a (hoOf tk)) a (dEmp tk) := by
  cases tk with
  | true => exact ⟨[], upd_same, rfl, by rw [List.map_nil, List.map_nil, rvs_nil]⟩
  | false => exact ⟨[], upd_same, rfl, by rw [List.map_nil, List.map_nil, rvs_nil]⟩
theorem isDo_emp {tk : Bool} : IsDo (dEmp tk) := by
  cases tk with
  | true => exact .inr ⟨_, rfl⟩
  | false => exact .inl ⟨_, rfl⟩
theorem dc_read {src : AA} {gm : GG} {tt : TT'} {kx vx : EE} {own : List Nat} {tk : Bool} {Q : VK} {gs : List Nat} (hsub : ∀ i ∈ gs, i ∈ own) (h : tE X.K g W (eDc tk src gm tt kx vx own) σ H Q) :
    tDcA (hoOf tk) (tSrc X.K g W src) (tG X.K g gs gm) (tT X.K g WF tt) (tE X.K g WF kx) (tE X.K g WF vx) own σ H Q := by
  obtain ⟨ρ, δ, M, mr, sr, h⟩ := h
  refine ⟨ρ, δ, M, mr, sr, ?_⟩
  unfold eDc at h
  cases e : src δ M with
  | no => simp only [e] at h; exact h
  | ex x M1 => simp only [e] at h; exact h
  | ok items M1 =>
    simp only [e, Rs.bind_ok] at h
    intro ρ1 J H1 x1 m1 wk D' hD'
    have s1 : SR X.K g ρ1 H1 (wipeD δ own) (L2.wipe σ own) := (x1.sr sr).wipe
    have h1 : dOk X.K g ρ1 M1 H1 (compD gm tt kx vx (wipeD δ own) items M1 (dEmp tk)) Q := by
      cases ec : compD gm tt kx vx (wipeD δ own) items M1 (dEmp tk) with
      | no => rw [ec] at h; exact h
      | ex z M2 => exact absurd ec compD_noex
      | ok o M2 =>
        rw [ec, Rs.bind_ok] at h
        exact (h.at x1 mr.len m1.len).plain fun _ _ => fun z => nomatch z
    have nlv : ¬ Lv ρ1 M1 D' := by
      rintro ⟨n, en, lv⟩
      obtain ⟨u, eu, _⟩ := m1.live_some en lv
      rw [hD'] at eu
      cases eu
    refine ⟨fun i m H' => m = items.length - i ∧ i ≤ items.length ∧ ∃ ρ2 M2 o, Ext ρ1 M1 H1 ρ2 M2 H' ∧ MR X.K g ρ2 M2 H' ∧ ¬ Lv ρ2 M2 D' ∧ RO X.K g ρ2 H' D' o ∧ IsDo o ∧
        dOk X.K g ρ1 M1 H1 (compD gm tt kx vx (wipeD δ own) (items.drop i) M2 o) Q,
      ⟨items.length, by simp, Nat.zero_le _, ρ1, M1, dEmp tk, ext_side (o' := .lst []) .refl hD', mr_new m1 hD', nlv, ro_emp, isDo_emp, by simpa using h1⟩, ?_⟩
    rintro i m H' ⟨rfl, hi, ρ2, M2, o, x2, m2, nl2, ro2, do2, h2⟩
    obtain ⟨wk1, wk2⟩ := wk i ρ2 M2 H' x2 m2
    by_cases hlt : i < items.length
    · refine .inr ?_
      rw [List.drop_eq_getElem_cons hlt, compD] at h2
      obtain ⟨go, yl⟩ := wk1 items[i] (List.getElem?_eq_getElem hlt)
      refine ⟨go, fun H3 => ∃ ρ3 M3 o3, Ext ρ1 M1 H1 ρ3 M3 H3 ∧ MR X.K g ρ3 M3 H3 ∧ ¬ Lv ρ3 M3 D' ∧ RO X.K g ρ3 H3 D' o3 ∧ IsDo o3 ∧ dOk X.K g ρ1 M1 H1 (compD gm tt kx vx (wipeD δ own) (items.drop (i + 1)) M3 o3) Q,
        fun H3 q => ⟨items.length - (i + 1), by omega, rfl, hlt, q⟩, fun y H3 hy => ?_⟩
      obtain ⟨x3, m3, r3⟩ := yl y H3 hy
      have x23 := x2.trans x3 m2.len m1.len
      have ro3 := ro_frame do2 x3 nl2 ro2
      obtain ⟨u3, hu3⟩ := do2.some ro3
      refine ⟨ρ2, wipeD δ own, M2, items[i], m3, x3.sr (x2.sr s1), r3, ?_⟩
      cases eg : gm items[i] (wipeD δ own) M2 with
      | no => rw [eg] at h2; exact h2
      | ex z M3 => rw [eg] at h2; exact h2
      | ok δ4 M4 =>
        rw [eg, Rs.bindN_ok] at h2
        intro ρ4 σ4 H4 x4 m4 s4 w4
        have x24 := x23.trans x4 m3.len m1.len
        have nl4 := nolv_of x4 m3.len nl2 hu3
        have ro4 := ro_frame do2 x4 nl2 ro3
        obtain ⟨u4, hu4⟩ := do2.some ro4
        refine ⟨?_, ρ4, δ4, M4, m4, s4, ?_⟩
        · rw [wipe_of hsub w4, wipe_absorb σ own own fun _ h => h]
        · cases et : tt δ4 M4 with
          | no => rw [et] at h2; exact h2
          | ex z M5 => rw [et] at h2; exact h2.elim
          | ok b M5 =>
            rw [et, Rs.bindN_ok] at h2
            intro ρ5 b' H5 x5 m5 eb
            subst eb
            have x25 := x24.trans x5 m4.len m1.len
            have nl5 := nolv_of x5 m4.len nl4 hu4
            have ro5 := ro_frame do2 x5 nl4 ro4
            obtain ⟨u5, hu5⟩ := do2.some ro5
            cases b' with
            | false =>
              rw [if_neg Bool.false_ne_true] at h2 ⊢
              exact ⟨ρ5, M5, o, x25, m5, nl5, ro5, do2, h2⟩
            | true =>
              rw [if_pos rfl] at h2 ⊢
              refine ⟨ρ5, δ4, M5, m5, x5.sr s4, ?_⟩
              cases ee : kx δ4 M5 with
              | no => rw [ee] at h2; exact h2
              | ex z M6 => rw [ee] at h2; exact h2.elim
              | ok kd M6 =>
                rw [ee, Rs.bindN_ok] at h2
                intro ρ6 kv H6 x6 m6 r6
                have x26 := x25.trans x6 m5.len m1.len
                have nl6 := nolv_of x6 m5.len nl5 hu5
                have ro6 := ro_frame do2 x6 nl5 ro5
                obtain ⟨u6, hu6⟩ := do2.some ro6
                refine ⟨ρ6, δ4, M6, m6, x6.sr (x5.sr s4), ?_⟩
                cases ev : vx δ4 M6 with
                | no => rw [ev] at h2; exact h2
                | ex z M7 => rw [ev] at h2; exact h2.elim
                | ok vd M7 =>
                  rw [ev, Rs.bindN_ok] at h2
                  intro ρ7 vv H7 x7 m7 r7
                  have x27 := x26.trans x7 m6.len m1.len
                  have nl7 := nolv_of x7 m6.len nl6 hu6
                  have ro7 := ro_frame do2 x7 nl6 ro6
                  cases ep : putO o kd vd with
                  | none => rw [ep] at h2; exact h2.elim
                  | some o' =>
                    rw [ep] at h2
                    obtain ⟨H8, dp, m8, k8, ro8, do8, u8, eu8⟩ := put_side m7 nl7 ro7 (x7.rv r6) r7 ep
                    exact ⟨H8, dp, ρ7, M7, o', by rw [eu8]; exact ext_side (o' := .lst []) x27 hD', m8, nl7, ro8, do8, h2⟩
    · refine .inl ⟨wk2 (by omega), ?_⟩
      have : items.drop i = [] := List.drop_eq_nil_of_le (by omega)
      rw [this, compD] at h2
      obtain ⟨x3, m3⟩ := join_at x2 m1.len m2 nl2 hD' ro2
      refine h2 _ _ _ x3 m3 ?_
      rw [rv_ref]
      refine ⟨D', ?_, rfl⟩
      rw [← m2.len, List.getElem?_append_right (Nat.le_refl _)]
      simp
theorem de_dc (tk : Bool) {kx vx tg iter : Expr} {ifs : List Expr} {scope : Scope} (own : List (Str × Nat)) {src : AA} {gs : List Nat} {gm : GG} {tt : TT'} {km vm : EE} (hu : X.A.units + 1 < cLine) (hc : X.calm = true) (hN : X.N.Nodup) (hi : DI X g W tg iter src) (ok : BlkOk X.N X.env.scope scope own)
    (hg : ∀ (s : Shared) (H : Hp) (C : Addr) (cl : List (Str × Addr)) (fp : List Addr), DG (X.blk s H scope (compEnvC scope cl C X.env) fp) g tg gs gm)
    (ht : ∀ (s : Shared) (H : Hp) (C : Addr) (cl : List (Str × Addr)) (fp : List Addr), DTs (X.blk s H scope (compEnvC scope cl C X.env) fp) g ifs tt)
    (hk : ∀ (s : Shared) (H : Hp) (C : Addr) (cl : List (Str × Addr)) (fp : List Addr), DE (X.blk s H scope (compEnvC scope cl C X.env) fp) g WF kx km)
    (he : ∀ (s : Shared) (H : Hp) (C : Addr) (cl : List (Str × Addr)) (fp : List Addr), DE (X.blk s H scope (compEnvC scope cl C X.env) fp) g WF vx vm)
    (hsub : ∀ i ∈ gs, i ∈ own.map (·.2) := by decide) (hs : ∀ x, foldedSetIterable iter X.env x = pure x := by intro _; rfl) : DE X g W (.DictComp kx vx [⟨tg, iter, ifs, 0⟩] scope pos) (eDc tk src gm tt km vm (own.map (·.2))) :=
  ⟨PE.imp (dcA (o0 := hoOf tk) (by cases tk; exact .inl rfl; exact .inr rfl) hu hc hN hi.pi ok (fun s H C cl fp => (hg s H C cl fp).pg) (fun s H C cl fp => (ht s H C cl fp).pts) (fun s H C cl fp => (hk s H C cl fp).pe) (fun s H C cl fp => (he s H C cl fp).pe) hs) fun σ H Q h => dc_read hsub h⟩
/-- {} -/
def eDn (tk : Bool) : EE := fun _ M => .ok (.ref M.length) (M ++ [dEmp tk])
theorem new_ref {o : Ob} {u : HO} {Q : VK} (mr : MR K g ρ M H) (h : rOk K g (RV K g) W ρ M σ H (.ok (.ref M.length) (M ++ [o])) Q) (p : Addr) (hp : H p = none) (ro : ∀ ρ' H', Ext ρ M H ρ' (M ++ [o]) H' → H' p = some u → RO K g ρ' H' p o) : Q (.ref p) (upd H p u) := by
  have x : Ext ρ M H (ρ ++ [p]) (M ++ [o]) (upd H p u) := ext_live mr.len hp
  refine h _ _ _ x (mr_live mr hp (ro _ _ x upd_same)) ?_
  rw [rv_ref]
  refine ⟨p, ?_, rfl⟩
  rw [← mr.len, List.getElem?_append_right (Nat.le_refl _)]
  simp
theorem de_dn (tk : Bool) : DE X g W (.Dict [] [] pos) (eDn tk) := by
  cases tk with
  | false => exact ⟨PE.imp pe_dnewK fun σ H Q ⟨ρ, δ, M, mr, sr, h⟩ p hp => new_ref mr h p hp fun ρ' H' x e => ⟨[], e, rfl, by rw [List.map_nil, List.map_nil, rvs_nil]⟩⟩
  | true => exact ⟨PE.imp pe_dnewT fun σ H Q ⟨ρ, δ, M, mr, sr, h⟩ p hp => new_ref mr h p hp fun ρ' H' x e => ⟨[], e, rfl, by rw [List.map_nil, List.map_nil, rvs_nil]⟩⟩
end
end
end Dl

set_option Elab.async false
set_option linter.all false
set_option autoImplicit false
set_option maxRecDepth 100000
set_option maxHeartbeats 4000000
/-! The D-layer: sum(lists, list). -/
namespace Dl
noncomputable section
open PySem PySem.Spec PyProof.Rows L2

section
variable {prog : Program} {w : World} {A : Around} {E : Value → Shared → Prop} {s : Shared}
theorem args_sumB (a b : Value) : argsOk "sum" ⟨[a, b], []⟩ := by unfold argsOk; kernel_rfl
theorem sumLoopL {R : Result → Shared → Prop} {S I l : Addr} {items : Array Value} (hh : A.handled = none) (hlI : l ≠ I) (hSI : S ≠ I) (hSl : S ≠ l) :
    ∀ (rest : List (Addr × List Value)) (i : Nat) (acc : List Value) (T : Addr) (n c : Nat) (s : Shared), items.size = i + rest.length → acc.length + (rest.map fun q => q.2.length).sum ≤ sizeLine →
      (∀ (j : Nat) (q : Addr × List Value), rest[j]? = some q → items[i + j]? = some (.ref q.1) ∧ q.1 ≠ S ∧ q.1 ≠ I ∧ ∃ m, IsL s.heap q.1 q.2.toArray m) →
      s.heap.IsListIter I l i → s.heap.IsList l items → s.heap.get? S = some { cls := .type "list", dict := none, data := .seq #[.ref T] c, slots := #[] } → T ≠ S → T ≠ I → IsL s.heap T acc.toArray n →
      (∀ h' tk T' n', (∀ b o, b ≠ S → b ≠ I → s.heap.get? b = some o → h'.get? b = some o) → IsL h' T' (acc ++ (rest.map (·.2)).flatten).toArray n' → ((rest = [] ∧ T' = T) ∨ (rest ≠ [] ∧ s.heap.objs.size ≤ T')) → R (.ok (.ret (.ref T'))) { s with heap := h', toks := tk }) →
      codeAny (model prog w) A (.builtin "sum.loop" ⟨[.ref I, .ref S, rawInt 2, rawInt 0], []⟩) R s
  | [], i, acc, T, n, c, s, hsz, hln, ht, hit, hl, hS, hTS, hTI, hT, hR => by
    refine codeAny_builtin F.entry_sum_loop ?_
    rw [Around.under_plainId F.plain_sum_loop _]
    show wpAny _ A.in1 (seqItems? (.ref S) >>= _) _ _ s
    refine wpAny_bind (wpAny_seqItems hS rfl ?_)
    show wpAny _ A.in1 (tryCatch (pyNext (.ref I)) _ >>= _) _ _ s
    refine wpAny_bind (wpAny_tryCatch (wpAny_pyNext_list_end (A := A.in1) hh hit hl (by exact Array.getElem?_eq_none (Nat.le_of_eq (by simpa using hsz))) fun h' he => ?_))
    refine wpAny_pure ?_
    refine hR h' s.toks T n (fun b o _ hb e => he b o hb e) (by simpa using he T _ hTI hT) (.inl ⟨rfl, rfl⟩)
  | q :: rest, i, acc, T, n, c, s, hsz, hln, ht, hit, hl, hS, hTS, hTI, hT, hR => by
    obtain ⟨hb, hbS, hbI, m, hq⟩ := ht 0 q rfl
    rw [List.length_cons] at hsz
    rw [List.map_cons, List.sum_cons] at hln
    refine codeAny_builtin F.entry_sum_loop ?_
    rw [Around.under_plainId F.plain_sum_loop _]
    show wpAny _ A.in1 (seqItems? (.ref S) >>= _) _ _ s
    refine wpAny_bind (wpAny_seqItems hS rfl ?_)
    show wpAny _ A.in1 (tryCatch (pyNext (.ref I)) _ >>= _) _ _ s
    refine wpAny_bind (wpAny_tryCatch (wpAny_pyNext_list_item (x := .ref q.1) hit hl (by simpa using hb) fun h1 hit1 hs1 => ?_))
    have x1 : ∀ b o, b ≠ I → s.heap.get? b = some o → h1.get? b = some o := fun b o hb e => hs1.extBut b o hb e
    show wpAny _ A.in1 ((holding [Value.ref q.1] (binaryOp .Add (.ref T) (.ref q.1))).attempt >>= _) _ _ _
    have hT1 : IsL h1 T acc.toArray n := x1 _ _ hTI hT
    have hq1 : IsL h1 q.1 q.2.toArray m := x1 _ _ hbI hq
    have hzz : acc.length + q.2.length ≤ sizeLine := by omega
    refine wpAny_bind (wpAny_attempt (wpAny_holding (PySem.P.add_list (s := { s with heap := h1 }) hT1 hq1 ?_ (by rw [List.size_toArray, List.size_toArray]; exact hzz))))
    have ea : acc.toArray ++ q.2.toArray = (acc ++ q.2).toArray := by simp
    rw [ea]
    show wpAny _ A.in1 (updateSeq S (fun _ => #[.ref h1.objs.size]) >>= _) _ _ { s with heap := h1.push { cls := .type "list", data := .seq (acc ++ q.2).toArray } }
    have x2 : ∀ b o, b ≠ I → s.heap.get? b = some o → (h1.push { cls := .type "list", data := .seq (acc ++ q.2).toArray }).get? b = some o := fun b o hb e => Heap.get?_push_of_some _ (x1 b o hb e)
    have hS2 := x2 S _ hSI hS
    refine wpAny_bind (wpAny_updateSeq hS2 rfl ?_)
    refine wpAny_bind (wpAny_letGo ?_)
    have hS3 := Heap.get?_update_self (Obj.mapSeq fun _ => #[Value.ref h1.objs.size]) hS2 rfl
    refine wpAny_bind (wpAny_updateSeq hS3 rfl (wpAny_pure ⟨plainId_quiet F.plain_sum_loop _, ?_⟩))
    have hS4 := Heap.get?_update_self (Obj.mapSeq fun _ => #[Value.ref h1.objs.size]) hS3 rfl
    have x3 : ∀ b o, b ≠ S → b ≠ I → s.heap.get? b = some o → (((h1.push { cls := .type "list", data := .seq (acc ++ q.2).toArray }).update S (Obj.mapSeq fun _ => #[Value.ref h1.objs.size])).update S (Obj.mapSeq fun _ => #[Value.ref h1.objs.size])).get? b = some o := fun b o h1' h2' e => by
      rw [Heap.get?_update_other _ _ (Ne.symm h1'), Heap.get?_update_other _ _ (Ne.symm h1')]
      exact x2 b o h2' e
    have sz1 : s.heap.objs.size ≤ h1.objs.size := by
      obtain ⟨o, ho, _⟩ := hit
      exact Nat.le_of_eq hs1.1.symm
    have hlt : ∀ {b : Addr} {o : Obj}, s.heap.get? b = some o → b < h1.objs.size := fun e => Nat.lt_of_lt_of_le (Heap.lt_size e) sz1
    have nS : S ≠ h1.objs.size := Nat.ne_of_lt (hlt hS)
    have nI : h1.objs.size ≠ I := by
      obtain ⟨o, ho, _⟩ := hit
      exact Nat.ne_of_gt (hlt ho)
    refine sumLoopL (items := items) hh hlI hSI hSl rest (i + 1) (acc ++ q.2) h1.objs.size 0 _ _ (by omega) (by rw [List.length_append]; omega) (fun j q' e => ?_) ?_ ?_ hS4 nS.symm nI ?_ fun h' tk T' n' k hT' hc => ?_
    · obtain ⟨g1, g2, g3, m', g4⟩ := ht (j + 1) q' (by simpa using e)
      refine ⟨by rw [show i + 1 + j = i + (j + 1) by omega]; exact g1, g2, g3, m', x3 _ _ g2 g3 g4⟩
    · refine hit1.at fun o e => ?_
      rw [Heap.get?_update_other _ _ hSI, Heap.get?_update_other _ _ hSI]
      exact Heap.get?_push_of_some _ e
    · exact hl.at fun o e => x3 _ _ hSl.symm hlI e
    · show Heap.get? _ _ = some _
      rw [Heap.get?_update_other _ _ nS, Heap.get?_update_other _ _ nS]
      exact Heap.get?_push_size _ rfl
    · refine hR h' tk T' n' (fun b o a1 a2 e => k b o a1 a2 (x3 b o a1 a2 e)) ?_ (.inr ⟨List.cons_ne_nil _ _, ?_⟩)
      · rw [List.map_cons, List.flatten_cons, ← List.append_assoc]
        exact hT'
      · rcases hc with ⟨_, rfl⟩ | ⟨_, hc⟩
        · exact sz1
        · refine Nat.le_trans sz1 (Nat.le_trans ?_ hc)
          show _ ≤ (((h1.push _).update S _).update S _).objs.size
          rw [Heap.size_update, Heap.size_update, Heap.size_push]
          exact Nat.le_succ _
end
end
end Dl

set_option Elab.async false
set_option linter.all false
set_option autoImplicit false
set_option maxRecDepth 100000
set_option maxHeartbeats 4000000
/-! The D-layer: sum(lists, list), repr, dict(pairs), displays, methods of lists, list(range). -/
namespace Dl
noncomputable section
open PySem PySem.Spec L2

section
variable {X : Cx} {g : Gm} {W : WX} {K : PySem.W.Frag} {σ : L2.St} {H H' : Hp} {ρ ρ' : List Addr} {M M' : Mem} {pins : List (Addr × Obj)} {s : Shared}
/-! ### sum(lists, list) -/
def getLs (M : Mem) : List D → Option (List (List D))
  | [] => some []
  | d :: ds => match getL M d, getLs M ds with
    | some x, some xs => some (x :: xs)
    | _, _ => none
def sumLsD : OL := fun ds M => match ds with
  | [d, .lst ys] => match (getS M d).bind (getLs M) with
    | some ps => if sz (ys.length + ps.flatten.length) then .ok (.lst (ys ++ ps.flatten)) M else .no
    | none => .no
  | _ => .no
theorem sumLsD_noex : NoExL sumLsD := by
  intro ds M e M'
  unfold sumLsD
  repeat' split
  all_goals exact fun z => nomatch z
theorem getLs_ok (I : Inv X pins σ H s) (mr : MR X.K g ρ M H) : ∀ {ds : List D} {ps : List (List D)} {vs : List V}, getLs M ds = some ps → RVs X.K g ρ H ds vs →
    ∃ qs : List (Addr × List Value), vs = qs.map (fun q => V.ref q.1) ∧ qs.length = ds.length ∧ (∀ q ∈ qs, ∃ m, IsL s.heap q.1 q.2.toArray m) ∧ (qs.map fun q => q.2.length).sum = ps.flatten.length ∧ ∃ ws, RVs X.K g ρ H ps.flatten ws ∧ Vals ws (qs.map (·.2)).flatten
  | [], ps, vs, e, r => by
    rw [getLs] at e
    cases e
    rw [rvs_nil] at r
    subst r
    exact ⟨[], rfl, rfl, fun q hq => by simp at hq, rfl, [], by rw [List.flatten_nil, rvs_nil], .nil⟩
  | d :: ds, ps, vs, e, r => by
    rw [getLs] at e
    rw [rvs_cons] at r
    obtain ⟨v, t, ev, r1, r2⟩ := r
    subst ev
    cases e1 : getL M d with
    | none => rw [e1] at e; cases e
    | some x =>
      cases e2 : getLs M ds with
      | none => rw [e1, e2] at e; cases e
      | some xs =>
        rw [e1, e2] at e
        cases e
        obtain ⟨qs, h1, h2, h3, h4, ws, h5, h6⟩ := getLs_ok I mr e2 r2
        obtain ⟨p, us, ev, rd, ru⟩ := getL_ok mr e1 r1
        obtain ⟨z, its, n, rv, hl, eo⟩ := rd_list I rd
        refine ⟨(p, its) :: qs, by rw [ev, h1]; rfl, by simp [h2], fun q hq => ?_, ?_, us ++ ws, ?_, ?_⟩
        · rcases List.mem_cons.mp hq with rfl | hq
          · exact ⟨n, eo⟩
          · exact h3 q hq
        · rw [List.map_cons, List.sum_cons, h4, List.flatten_cons, List.length_append, ← ru.length, hl]
        · rw [List.flatten_cons]; exact ru.append h5
        · rw [List.map_cons, List.flatten_cons]; exact rv.append h6
theorem dc_sumLs (hc : X.calm = true) : DC X g (.builtin "sum") sumLsD := by
  rintro pins s σ H xs us Q I rr ⟨ρ, M, ds, mr, r, h⟩
  unfold sumLsD at h
  split at h
  · rename_i d ys
    obtain ⟨v, v', rfl, r1, r2⟩ := rvs2 r
    split at h
    · rename_i ps ep
      by_cases hz : sz (ys.length + ps.flatten.length) = true
      · rw [if_pos hz] at h
        have hz' : ys.length + ps.flatten.length ≤ sizeLine := by simpa [sz] using hz
        cases e1 : getS M d with
        | none => rw [e1] at ep; cases ep
        | some zs =>
          rw [e1] at ep
          have ep : getLs M zs = some ps := ep
          obtain ⟨p, vs, rfl, s1, q1⟩ := getS_ok mr e1 r1
          obtain ⟨qs, h1, h2, h3, h4, ws, h5, h6⟩ := getLs_ok I mr ep q1
          obtain ⟨its, rv, pl, hl⟩ := I.list s1
          have r2' := r2
          rw [rv_lst] at r2'
          obtain ⟨b, bs, rfl, fb, rb⟩ := r2'
          obtain ⟨zb, itb, nb, rvb, hlb, eb⟩ := rd_list I (.inr fb)
          obtain ⟨u, u', rfl, ru, ru'⟩ := vals2 rr
          cases ru
          cases ru'
          refine call_function_tree F.kind_sum F.plain_sum F.entry_sum (args_sumB _ _) ?_
          unfold Builtin.«sum»
          simp only [List.length_cons, List.length_nil]
          rw [if_neg (by decide)]
          refine wpAny_bind (wpAny_of_eq (show Builtin.Builtins.bindParams "sum" ["start"] 0 { pos := [.ref b] } = pure [some (.ref b)] from rfl) ?_)
          refine wpAny_bind (wpAny_pyIter_list pl.isList ?_)
          refine wpAny_bind (wpAny_pure ?_)
          have eb' : (s.heap.push { cls := .type "list_iterator", data := .fields #[.ref p, .int 0 0] }).get? b = some { cls := .type "list", data := .seq itb.toArray nb } := Heap.get?_push_of_some _ eb
          have tb : Shared.TypeIs { s with heap := s.heap.push { cls := .type "list_iterator", data := .fields #[.ref p, .int 0 0] } } (.ref b) "list" := ⟨_, eb', rfl⟩
          simp only [List.forIn_cons, List.forIn_nil]
          refine wpAny_bind (wpAny_bind (wpAny_bind (wpAny_isInstance (b := false) tb F.sub_list_str ?_)))
          simp only [Bool.false_eq_true, if_false]
          refine wpAny_pure (wpAny_bind (wpAny_bind (wpAny_isInstance (b := false) tb F.sub_list_bytes ?_)))
          simp only [Bool.false_eq_true, if_false]
          refine wpAny_pure (wpAny_bind (wpAny_bind (wpAny_isInstance (b := false) tb F.sub_list_bytearray ?_)))
          simp only [Bool.false_eq_true, if_false]
          refine wpAny_pure (wpAny_pure ?_)
          refine wpAny_bind (wpAny_newObj_type ?_)
          have kp : ∀ c o, s.heap.get? c = some o → ((s.heap.push { cls := .type "list_iterator", data := .fields #[.ref p, .int 0 0] }).push { cls := .type "list", data := .seq ([Value.ref b]).toArray }).get? c = some o := fun c o e => Heap.get?_push_of_some _ (Heap.get?_push_of_some _ e)
          have ltI : ∀ {c : Addr} {o : Obj}, s.heap.get? c = some o → c ≠ s.heap.objs.size := fun e => Nat.ne_of_lt (Heap.lt_size e)
          have hS0 : (s.heap.push { cls := .type "list_iterator", data := .fields #[.ref p, .int 0 0] }).objs.size = s.heap.objs.size + 1 := PyProof.Rows.size_push' ..
          have ltS : ∀ {c : Addr} {o : Obj}, s.heap.get? c = some o → c ≠ (s.heap.push { cls := .type "list_iterator", data := .fields #[.ref p, .int 0 0] }).objs.size := fun e => by
            rw [hS0]; exact Nat.ne_of_lt (Nat.lt_succ_of_lt (Heap.lt_size e))
          obtain ⟨op, hop, cp, np, dp⟩ := pl.isList
          have hits : its = qs.map fun q => Value.ref q.1 := by
            have e : (qs.map fun q => V.ref q.1) = (qs.map (·.1)).map V.ref := by rw [List.map_map]; rfl
            rw [h1, e] at rv
            rw [refs_at rv, List.map_map]
            rfl
          refine wpAny_pure ⟨plainId_quiet F.plain_sum_loop _, sumLoopL (S := (s.heap.push { cls := .type "list_iterator", data := .fields #[.ref p, .int 0 0] }).objs.size) (I := s.heap.objs.size) (l := p) (items := its.toArray) (I.ok.hd hc) (ltI hop) (by rw [hS0]; exact Nat.succ_ne_self _) (ltS hop).symm qs 0 itb b nb 0 { s with heap := (s.heap.push { cls := .type "list_iterator", data := .fields #[.ref p, .int 0 0] }).push { cls := .type "list", data := .seq ([Value.ref b]).toArray } } ?_ ?_ (fun j q e => ?_) ?_ ?_ (Heap.get?_push_size _ rfl) (ltS eb) (ltI eb) (kp _ _ eb) fun h' tk T' n' k hT hcz => ?_⟩
          · rw [hits]; simp
          · rw [h4, ← hlb, rb.length]; exact hz'
          · obtain ⟨m, hm⟩ := h3 q (List.mem_of_getElem? e)
            refine ⟨by rw [hits]; simp [e], ltS hm, ltI hm, m, kp _ _ hm⟩
          · exact ⟨_, Heap.get?_push_of_some _ (Heap.get?_push_size _ rfl), rfl, rfl⟩
          · exact ⟨op, kp _ _ hop, cp, np, dp⟩
          · have k' : ∀ c o, s.heap.get? c = some o → h'.get? c = some o := fun c o e => k c o (ltS e) (ltI e) (kp c o e)
            rcases hcz with ⟨rfl, rfl⟩ | ⟨ne, hcz⟩
            · refine ⟨.ref _, H, I.kept k', rfl, ?_⟩
              have : ps.flatten = [] := by
                have : zs = [] := by cases zs with
                  | nil => rfl
                  | cons _ _ => simp at h2
                subst this
                rw [getLs] at ep
                cases ep
                rfl
              rw [this, List.append_nil] at h
              exact h.now mr r2
            · have hlen : (bs ++ ws).length ≤ sizeLine := by rw [List.length_append, rb.length, h5.length]; exact hz'
              have I2 := I.laid (t' := tk) (a := T') (o := .lst (bs ++ ws)) k' (Nat.le_trans (by rw [PyProof.Rows.size_push', hS0]; omega) hcz) (show ObjOk X.prog X.w _ h' _ (.lst (bs ++ ws)) from ⟨hlen, _, n', rvb.append h6, hT⟩)
              have hf : H T' = none := I.hok.fresh (Nat.le_trans (by rw [PyProof.Rows.size_push', hS0]; omega) hcz)
              have hm : pOk X.K g (RV X.K g) ρ M H (mkL true (ys ++ ps.flatten) M) Q := by
                unfold mkL
                rw [if_pos (by rw [List.length_append]; exact hz), if_pos rfl]
                exact h
              exact ep_fz ⟨.ref T', _, I2, rfl, mkL_ok mr hf (rb.append h5) hm⟩
      · rw [if_neg hz] at h; exact h.elim
    · exact h.elim
  · exact h.elim
end
end
end Dl

set_option Elab.async false
set_option linter.all false
set_option autoImplicit false
set_option maxRecDepth 100000
set_option maxHeartbeats 4000000
/-! The D-layer: the end of a law (as L2.walk_of, with the guards of the caller known). -/
namespace Dl
open PySem PySem.Spec PyProof.Rows L2

/-- no slot, no memory, the script alone -/
theorem mr_nil {K : PySem.W.Frag} {g : Gm} {H : Hp} (t : LamX.Tabs g.T H) : MR K g [] [] H := ⟨rfl, fun n a o h _ => by simp at h, fun n m a h _ _ _ => by simp at h, t⟩
/-- what an empty-handed caller asks of a law's def: True, whatever the script -/
def LawF (F : FF) : Prop := ∀ ns : List Int, ns.length ≤ 63 → ∃ M, F [.scr ns] [] = .ok (.bl true) M
theorem lawF_sp {K : PySem.W.Frag} {g : Gm} {F : FF} {H : Hp} {a : Addr} {ns : List Int} (hF : LawF F) (hl : ns.length ≤ 63) (t : LamX.Tabs g.T H) (hS : ScL K H a (ns.map V.int)) : spD K g 1 F [.ref a] H (fun v _ => v = .bl true) fun _ _ _ => False := by
  obtain ⟨M, e⟩ := hF ns hl
  refine ⟨[], [], [.scr ns], mr_nil t, .one (by rw [rv_scr]; exact ⟨a, rfl, hS⟩), rfl, ?_⟩
  rw [e]
  intro ρ' v H' x m r
  rw [rv_bl] at r
  exact r
/-- what is known of the tables cs (code object, its table) at the head's heap -/
structure TabsAt (K : PySem.W.Frag) (mg : Str → Option Value) (h : Heap) (cs : List (Addr × Addr)) : Prop where
  nil : ∀ p ∈ cs, h.get? p.2 = some ({ cls := .none, data := .fields #[] } : Obj)
  out : ∀ p ∈ cs, K.lookup p.2 = none
  hd : ∀ p ∈ cs, PySem.W.CodeHd h p.1 p.2
/-- a heap of such an object is no dict's -/
theorem dict_ne {h : Heap} {b : Addr} {o : Obj} {es : Array DictEntry} {ep : Nat} (e : h.get? b = some o) (d : o.data = .dict es ep) : h.get? b ≠ some ({ cls := .none, data := .fields #[] } : Obj) := fun z => by
  rw [e] at z
  cases z
  cases d
/-- the law's call -/
theorem law_callG {P : Program} {w : World} {K : PySem.W.Frag} {mg mb : Str → Option Value} {g : Gm} {k : Nat} {fa a : Addr} {fd : FuncData} {x : Str} {F : FF} {s₁ : Shared} {vs : List Value} {ns : List Int} {cs : List (Addr × Addr)}
    (KX : K.In s₁.heap) (hns : s₁.heap.Ns mainGlobals mg) (hb : s₁.heap.Ns builtinsNs mb) (hbb : ∀ x : Str, x ≠ "__name__" → mb x = bootBuiltins x) (hlim : s₁.heap.NoLimit) (hg : s₁.gens = #[])
    (ta : TabsAt K mg s₁.heap cs) (hT : ∀ p ∈ g.T, ∃ c, (c, p.1) ∈ cs)
    (hbm : ∃ (bm : Addr) (ob : Obj), mg "__builtins__" = some (.ref bm) ∧ bm ≠ builtinsNs ∧ s₁.heap.get? bm = some ob ∧ ob.cls = .type "module" ∧ ob.dict = some builtinsNs ∧ ob.data = .plain)
    (ha : s₁.heap.get? a = some { cls := .type "list", data := .seq vs.toArray }) (hi : IntsAre vs ns) (hl : ns.length ≤ 63) (hr : Room k callerA)
    (hR : ∀ base : Heap, K.In base → base.Ns mainGlobals mg → (∀ p ∈ cs, LamX.TabB base mg p.1 p.2) → FnG P w K mg base k fa fd [x] (spD K g 1 F)) (hbind : ∀ (s : Shared) (u : Value), BindsTo s fd ⟨[u], []⟩ [(x, u)]) (hF : LawF F) :
    codeAny (model P w) callerA (.call (.ref fa) ⟨[.ref a], []⟩) (fun r s' => r = .ok (.ret (.bool true)) ∧ OldK s₁.heap s'.heap ∧ s'.os = s₁.os ∧ AllBare s'.gens) s₁ := by
  have rv := vals_ints hi
  have hsz : ns.length ≤ sizeLine := by rw [sizeLine_eq]; omega
  have lenV := hi.length
  -- b is the table of one of cs
  let IsTab : Addr → Prop := fun b => ∃ c, (c, b) ∈ cs
  have tabO : ∀ {b : Addr}, IsTab b → s₁.heap.get? b = some ({ cls := .none, data := .fields #[] } : Obj) := fun {b} ⟨c, hc⟩ => ta.nil _ hc
  have aNo : ¬ IsTab a := fun z => by
    have q := tabO z
    rw [ha] at q
    have q2 : Data.seq vs.toArray _ = Data.fields #[] := congrArg Obj.data (Option.some.inj q)
    cases q2
  have main : ∀ H : Hp, (∀ b, IsTab b → H b = some (.tbl #[])) → (∀ b, ¬ IsTab b → H b = none ∨ ∃ o xs, H b = some (.frz o (.lst xs))) → ScL K H a (ns.map V.int) → HOk P w H s₁.heap → (∀ b, H b ≠ none → b = a ∨ IsTab b) → (H a ≠ none → K.lookup a = none) →
      codeAny (model P w) callerA (.call (.ref fa) ⟨[.ref a], []⟩) (fun r s' => r = .ok (.ret (.bool true)) ∧ OldK s₁.heap s'.heap ∧ s'.os = s₁.os ∧ AllBare s'.gens) s₁ := by
    intro H hH hO hS hok hA hK
    have free : ∀ {b : Addr}, (b = a → False) → (IsTab b → False) → H b = none := fun {b} n1 n2 => by
      cases q : H b with
      | none => rfl
      | some u => exact ((hA b (by rw [q]; simp)).elim n1 n2).elim
    have isD : ∀ {b : Addr} {o : Obj} {es : Array DictEntry} {ep : Nat}, s₁.heap.get? b = some o → o.data = .dict es ep → H b = none := fun {b o es ep} e d => free (fun z => by subst z; rw [ha] at e; cases e; cases d) fun z => dict_ne e d (tabO z)
    have nsIn : ∀ {b : Addr} {m : Str → Option Value}, s₁.heap.Ns b m → (hidT s₁.heap H).Ns b m := fun {b m} ⟨o, es, ep, e, d, r⟩ => ⟨o, es, ep, hidT_get e (isD e d), d, r⟩
    have kB : K.In (hidT s₁.heap H) := fun b o e => hidT_get (KX b o e) (by
      cases q : H b with
      | none => rfl
      | some u =>
        rcases hA b (by rw [q]; simp) with z | ⟨c, hc⟩
        · subst z
          rw [hK (by rw [q]; simp)] at e
          cases e
        · have n := ta.out _ hc
          rw [e] at n
          cases n)
    obtain ⟨ml, l1, l2⟩ := hlim
    have mod : Mod K mg (hidT s₁.heap H) := ⟨kB, nsIn hns, ⟨mb, nsIn hb, hbb⟩, ⟨ml, nsIn l1, l2⟩⟩
    have e0 : Env0 P w K mg (hidT s₁.heap H) callerA [] s₁ H := ⟨rfl, mod, fun b o e => of_hidT e, Nat.le_of_eq (hidT_size _ _), trivial, fun b hb => absurd (show b ∈ ([] : List Addr) from hb) (by simp), hok, .of_eq hg⟩
    have tb : ∀ p ∈ cs, LamX.TabB (hidT s₁.heap H) mg p.1 p.2 := fun ⟨c, P'⟩ hp => by
      have hN := ta.nil _ hp
      simp only at hN
      obtain ⟨oG, eG, pG, hG, dG, _⟩ := hns
      refine ⟨?_, ?_, fun z => dict_ne hG dG (by rw [show mainGlobals = P' from z]; exact hN)⟩
      · obtain ⟨o, us, r0, r1, r2, r3, r4, r5, r6, e1, q2, q3, rest⟩ := ta.hd _ hp
        refine ⟨o, us, r0, r1, r2, r3, r4, r5, r6, hidT_get e1 (free (fun z => ?_) fun z => ?_), q2, q3, rest⟩
        · subst z; rw [ha] at e1; cases e1; cases q3
        · have h2 := tabO z
          rw [e1] at h2
          cases h2
          cases q3
          simp at rest
      · obtain ⟨bm, ob, b1, b2, b3, b4, b5, b6⟩ := hbm
        refine ⟨bm, ob, b1, b2, fun z => ?_, fun z => ?_, hidT_get b3 (free (fun z => ?_) fun z => ?_), b4, b5, b6⟩
        · rw [z, hG] at b3; cases b3; rw [dG] at b6; cases b6
        · rw [z, hN] at b3; cases b3; cases b6
        · subst z; rw [ha] at b3; cases b3; cases b6
        · have h2 := tabO z
          rw [b3] at h2
          cases h2
          cases b6
    have tt : LamX.Tabs g.T H := fun p hp => by
      obtain ⟨c, hc⟩ := hT p hp
      exact LamX.TabS.nil (hH _ ⟨c, hc⟩)
    refine codeAny_mono ((hR _ kB (nsIn hns) tb).run callerA [] s₁ H ⟨[.ref a], []⟩ [.ref a] [.ref a] _ _ rfl hr e0 (hbind s₁ (.ref a)) (.cons rfl .nil) (lawF_sp hF hl tt hS)) fun r s' h => ?_
    cases r with
    | error e =>
      obtain ⟨_, _, _, _, _, _, _, _, _, _, _, _, z⟩ := h
      exact z.elim
    | ok fl =>
      cases fl with
      | next => exact h.elim
      | brk => exact h.elim
      | cont => exact h.elim
      | ret u =>
        obtain ⟨v, H', os, bare, un, hok', r', q⟩ := h
        have q' : v = .bl true := q
        subst q'
        have r2 : u = Value.bool true := r'
        subst r2
        have more : ∀ b, IsTab b → ∃ ps : Array Value, s'.heap.get? b = some ({ cls := .none, data := .fields ps } : Obj) := fun b z => by
          obtain ⟨qs, hq⟩ := un.tbls b #[] (hH b z)
          exact ⟨_, hok' b _ hq⟩
        have keep : ∀ b o, ¬ IsTab b → s₁.heap.get? b = some o → s'.heap.get? b = some o := fun b o nt e => by
          rcases hO b nt with z | ⟨ob, xs, z⟩
          · exact un.keep b o e z (by intro z; exact absurd (show b ∈ ([] : List Addr) from z) (by simp)) (by simp)
          · have e1 := (hok b _ z).1
            rw [e] at e1
            cases e1
            exact (hok' b _ (un.frzs b _ _ z)).1
        refine ⟨rfl, ⟨fun b o e => ?_, fun b o e => ?_⟩, os, bare⟩
        · by_cases hb : IsTab b
          · obtain ⟨ps, hp⟩ := more b hb
            obtain ⟨c, hc⟩ := hb
            have hN := ta.nil _ hc
            rw [show s₁.heap.get? b = _ from hN] at e
            cases e
            exact .inr (.inl ⟨((ta.hd _ hc).tab hN).isCodeTable, rfl, #[], ps, rfl, by rw [Array.empty_append]; exact hp⟩)
          · exact .inl (keep b o hb e)
        · by_cases hb : IsTab b
          · obtain ⟨ps, hp⟩ := more b hb
            exact ⟨_, hp⟩
          · exact ⟨o, keep b o hb e⟩
  open Classical in
  cases hk : K.lookup a with
  | some o =>
    have e := KX a o hk
    rw [ha] at e
    cases e
    refine main (fun b => if IsTab b then some (.tbl #[]) else none) (fun b z => if_pos z) (fun b z => .inl (if_neg z)) (.inr ⟨_, vs.toArray, _, hk, rfl, rfl, rfl, by rw [List.size_toArray, lenV]; exact hsz, by simpa using rv⟩) (fun b u z => ?_) (fun b z => ?_) fun z => absurd (if_neg aNo) z
    · by_cases hb : IsTab b
      · have z' := (if_pos hb).symm.trans z
        cases z'
        exact tabO hb
      · exact nomatch (if_neg hb).symm.trans z
    · by_cases hb : IsTab b
      · exact .inr hb
      · exact absurd (if_neg hb) z
  | none =>
    refine main (fun b => if b = a then some (.frz { cls := .type "list", data := .seq vs.toArray } (.lst (ns.map V.int))) else if IsTab b then some (.tbl #[]) else none) (fun b z => (if_neg (fun q : b = a => aNo (by rw [← q]; exact z))).trans (if_pos z)) (fun b hb => ?_) (.inl ⟨{ cls := .type "list", data := .seq vs.toArray }, if_pos rfl⟩) (fun b u z => ?_) (fun b z => ?_) fun _ => hk
    · by_cases h1 : b = a
      · exact .inr ⟨_, _, if_pos h1⟩
      · exact .inl ((if_neg h1).trans (if_neg hb))
    · by_cases hb : b = a
      · subst hb
        have z' := (if_pos rfl).symm.trans z
        cases z'
        exact ⟨ha, by rw [List.length_map]; exact hsz, vs, _, rv, ha⟩
      · have z1 := (if_neg hb).symm.trans z
        by_cases h2 : IsTab b
        · have z2 := (if_pos h2).symm.trans z1
          cases z2
          exact tabO h2
        · exact nomatch (if_neg h2).symm.trans z1
    · by_cases hb : b = a
      · exact .inl hb
      · by_cases h2 : IsTab b
        · exact .inr h2
        · exact absurd ((if_neg hb).trans (if_neg h2)) z
/-- the table of the def at fx is empty at the head -/
def TabOf (K : PySem.W.Frag) (h : Heap) (fx : Addr) : Prop := ∀ (c P : Addr) (o : Obj) (fd : FuncData) (e : Value) (dd : Option Addr) (us : Array Value) (sl : Array (Option Value)), K.lookup fx = some o → o.data = .func fd → fd.code = .ref c → K.lookup c = some ⟨e, dd, .fields us, sl⟩ → us[11]? = some (.ref P) →
  h.get? P = some ({ cls := .none, data := .fields #[] } : Obj)
theorem walk_ofG {l : PySem.W.OpenLaw} {k : Nat} {q : Program} {loose : List Str} {XP : (Str → Option Value) → Heap → Prop} {YP : World → Heap → Prop} {d : DefRec} {K : Params → PySem.W.Frag} {x : Str} {F : FF} (hF : LawF F)
    (hn : l.most = some 63) (hdf : d.params.defaults = []) (hr : Room k callerA) (hY : ∀ (w : World) (h : Heap), YP w h → (K w.params).In h)
    (hL : ∀ (w : World) (mg : Str → Option Value) (fa : Addr) (h : Heap), (K w.params).In h → h.Ns mainGlobals mg → mg d.name = some (.ref fa) → (∀ (y : Str) (fx : Addr), ((recsOf q).any fun e => e.name == y) = true → mg y = some (.ref fx) → TabOf (K w.params) h fx) →
      ∃ (g : Gm) (fd : FuncData) (cs : List (Addr × Addr)), TabsAt (K w.params) mg h cs ∧ (∀ p ∈ g.T, ∃ c, (c, p.1) ∈ cs) ∧ (∀ (s : Shared) (u : Value), BindsTo s fd ⟨[u], []⟩ [(x, u)]) ∧
        ∀ base : Heap, (K w.params).In base → base.Ns mainGlobals mg → (∀ p ∈ cs, LamX.TabB base mg p.1 p.2) → FnG l.prog w (K w.params) mg base k fa fd [x] (spD (K w.params) g 1 F)) :
    PySem.W.WalkO q loose XP YP l.row.toRowW d [] (fun f vs => PySem.call f vs) := by
  refine Att.attach_call hn hdf fun w s₀ s₁ mg mb fa o pm cd doc a vs ns G Y ho hd hcd hmg hobj hints hlen hg => ?_
  have KX := hY w _ Y
  obtain ⟨g, fd, cs, ta, hT, hb, hR⟩ := hL w mg fa _ KX G.T.g hmg fun y fx hy hm c P o1 fd1 e dd us sl k1 k2 k3 k4 k5 => by
    obtain ⟨dL, m1, m2⟩ := List.any_eq_true.mp hy
    obtain ⟨a1, o2, fd2, c2, P2, h1, h2, h3, h4, h5, ⟨⟨oc, vc, e1, _, e3, e4⟩, hP⟩⟩ := G.T.tab dL m1
    rw [beq_iff_eq.mp m2, hm] at h1
    cases h1
    rw [KX _ _ k1] at h2
    cases h2
    rw [k2] at h3
    cases h3
    rw [k3] at h4
    cases h4
    rw [KX _ _ k4] at e1
    cases e1
    cases e3
    rw [k5] at e4
    cases e4
    exact hP
  exact law_callG KX G.T.g G.T.b G.T.builtins G.T.nolimit hg ta hT G.T.bmain hobj hints hlen hr hR hb hF
end Dl

set_option Elab.async false
set_option linter.all false
set_option autoImplicit false
set_option maxRecDepth 100000
set_option maxHeartbeats 4000000
/-! The D-layer: repr, methods of lists, displays of dicts, dict(pairs), list(range). -/
namespace Dl
noncomputable section
open PySem PySem.Spec PyProof.Rows L2
section
variable {X : Cx} {g : Gm} {W : WX} {K : PySem.W.Frag} {σ : L2.St} {H H' : Hp} {ρ ρ' : List Addr} {M M' : Mem} {pins : List (Addr × Obj)} {s : Shared} {a e o : Expr} {es : List Expr} {ma mo : EE} {as : AA} {pos : Pos}
/-! ### repr -/
def showOk (p : PyData) : Bool := p.showable && !p.hasDict && decide (p.depth ≤ 60) && sz p.shown.length
def reprD : OL := fun ds M => match ds with
  | [.int i] => if decide (i.natAbs.log2 < 1920) then .ok (.str (toString i)) M else .no
  | [d] => match toPM M d with
    | some p => if showOk p then .ok (.str (PyData.shown p)) M else .no
    | none => .no
  | _ => .no
theorem reprD_noex : NoExL reprD := by
  intro ds M e M'
  unfold reprD
  repeat' split
  all_goals exact fun z => nomatch z
theorem dc_repr (hgd : X.A.guards = some []) (hu : X.A.units + 64 < cLine) : DC X g (.builtin "repr") reprD := by
  rintro pins s σ H xs us Q I rr ⟨ρ, M, ds, mr, r, h⟩
  unfold reprD at h
  split at h
  · obtain ⟨v, rfl, r1⟩ := rvs1 r
    rw [rv_int] at r1
    subst r1
    split at h
    · rename_i hz
      exact SkE.call_repr_int pins s σ H _ us Q I rr ⟨_, rfl, by simpa using hz, h.now mr (by rw [rv_str])⟩
    · exact h.elim
  · rename_i d _
    obtain ⟨v, rfl, r1⟩ := rvs1 r
    split at h
    · rename_i p ep
      split at h
      · rename_i ok
        simp only [showOk, Bool.and_eq_true, Bool.not_eq_true', decide_eq_true_eq, sz] at ok
        obtain ⟨⟨⟨o1, o2⟩, o3⟩, o4⟩ := ok
        obtain ⟨u, rfl, rx⟩ := vals1 rr
        have dp := dpM_of mr r1 ep
        have ans : ∀ {x : Str} {s2 : Shared} {t : Tok}, x = p.shown → Inv X pins σ H s2 → EP X pins σ Q (.str x t) s2 := fun {x s2 t} e J => ⟨.str x, H, J, ⟨t, rfl⟩, e ▸ h.now mr (by rw [rv_str])⟩
        have deep : ∀ {a : Addr}, v = .ref a → wpAny (model X.prog X.w) X.A (call (.builtin "repr") [u]) (EP X pins σ Q) X.xe s := fun {a} e => by
          subst e
          cases rx
          obtain ⟨as, rd⟩ := Dp.reads I p (.ref a) (.ref a) dp rfl
          exact repr_of_reads' rd o1 (PyData.noDict_hsm o2) hgd (by omega) (fun _ _ e => e) (fun h' u tk hk => ans rfl (I.kept hk)) (cdec_iff.mp o4)
        cases dp with
        | non => cases rx; exact PySem.P.repr_of_none (ans rfl (I.tok _))
        | bl b => cases rx; exact PySem.P.repr_of_bool (ans rfl (I.tok _))
        | int i => obtain ⟨t, rfl⟩ := rx; exact PySem.P.repr_of_int (by simpa [PyData.showable] using o1) (ans rfl (I.tok _))
        | str x => obtain ⟨t, rfl⟩ := rx; exact PySem.P.repr_of_str (ans rfl (I.tok _)) (cdec_iff.mp o4)
        | tup _ _ => exact deep rfl
        | lst _ _ => exact deep rfl
      · exact h.elim
    · exact h.elim
  · exact h.elim

/-! ### methods of lists -/
abbrev OM := D → List D → Mem → Rs D
def rM (K : PySem.W.Frag) (g : Gm) (op : OM) : V → List V → Hp → VK → Prop := fun x xs H Q => ∃ ρ M d ds, MR K g ρ M H ∧ RV K g ρ H d x ∧ RVs K g ρ H ds xs ∧ pOk K g (RV K g) ρ M H (op d ds M) Q
def NoExM (op : OM) : Prop := ∀ d ds M e M', op d ds M ≠ .ex e M'
def eBM (op : OM) (mo : EE) (as : AA) : EE := fun δ M => (mo δ M).bind fun o M1 => match getL M1 o with
  | some _ => (as δ M1).bind fun ds M2 => op o ds M2
  | none => .no
def eBM0 (op : OM) (mo : EE) : EE := fun δ M => (mo δ M).bind fun o M1 => op o [] M1
theorem ty_list (mr : MR K g ρ M H) {d : D} {v : V} {xs : List D} (r : RV K g ρ H d v) (e : getL M d = some xs) : tyV K "list" v H := by
  obtain ⟨p, vs, rfl, rd, _⟩ := getL_ok mr e r
  exact .inl ⟨rfl, vs, .inl rd⟩
theorem bm_read {op : OM} (hn : NoExM op) {Q : VK} (h : tE X.K g W (eBM op mo as) σ H Q) : tBM X.K "list" (rM X.K g op) (tE X.K g W mo) (tA X.K g W as) σ H Q := by
  have h1 := tD_bind (R1 := RV X.K g) (m := mo) (f := fun o δ M1 => match getL M1 o with
    | some _ => (as δ M1).bind fun ds M2 => op o ds M2
    | none => .no) h
  refine tD_mono h1 fun v H1 ⟨ρ, δ, M, o, mr, sr, r, h⟩ => ?_
  cases e : getL M o with
  | none => rw [e] at h; exact h.elim
  | some xs =>
    rw [e] at h
    refine ⟨ty_list mr r e, ?_⟩
    exact tD_mono (tD_then (R1 := RVs X.K g) (m := as) (f := fun ds _ M2 => op o ds M2) mr sr h) fun vs H2 ⟨ρ2, M2, ds, x, m2, s2, r2, h2⟩ => ⟨ρ2, M2, o, ds, m2, x.rv r, r2, h2.plain fun _ _ => hn _ _ _ _ _⟩
theorem de_bm {name : Str} {id : String} {op : OM} {apos cpos : Pos} (slot : Slot "list" name id) (hty : typeOf (.builtin id) = pure (.type "method_descriptor")) (hm : MtR X id (rM X.K g op)) (hn : NoExM op) (ho : DE X g W o mo) (ha : DA X g W (e :: es) as)
    (hbase : attributeBase o name X.env (eval o X.env) = eval o X.env := by rfl)
    (hfew : ((backTo cpos (starEach (e :: es) X.env)).all (fun x => !x.1) && (backToKw cpos (keywordEach [] X.env)).all (fun x => x.1.isSome)
      && decide ((e :: es).length + ([] : List Keyword).length + (if ([] : List Keyword).isEmpty then 0 else 1) < 30)) = true := by rfl)
    (hline : (apos.endLine == cpos.line) = true := by rfl) (hs : starEach (e :: es) X.env = (false, eval e X.env) :: starEach es X.env := by rfl) (hplain : (backTo cpos (starEach es X.env)).any (·.1) = false := by rfl) :
    DE X g W (.Call (.Attribute o name apos) (e :: es) [] cpos) (eBM op mo as) :=
  ⟨PE.imp (pe_bm PySem.F.plainAttrs_list slot hty hm ho.pe ha.pa hbase hfew hline hs hplain) fun _ _ _ h => bm_read hn h⟩
theorem de_bm0 {name : Str} {id : String} {op : OM} {apos cpos : Pos} (slot : Slot "list" name id) (hty : typeOf (.builtin id) = pure (.type "method_descriptor")) (hm : MtR X id (rM X.K g op)) (hn : NoExM op) (hl : ∀ d M, getL M d = none → op d [] M = .no) (ho : DE X g W o mo)
    (hbase : attributeBase o name X.env (eval o X.env) = eval o X.env := by rfl) (hline : (apos.endLine == cpos.line) = true := by rfl) : DE X g W (.Call (.Attribute o name apos) [] [] cpos) (eBM0 op mo) := by
  refine ⟨PE.imp (pe_bm0 PySem.F.plainAttrs_list slot hty hm ho.pe hbase hline) fun σ H Q h => ?_⟩
  have h1 := tD_bind (R1 := RV X.K g) (m := mo) (f := fun o δ M1 => op o [] M1) h
  refine tD_mono h1 fun v H1 ⟨ρ, δ, M, o, mr, sr, r, h⟩ => ?_
  cases e : getL M o with
  | none => rw [hl o M e] at h; exact h.elim
  | some xs => exact ⟨ty_list mr r e, ρ, M, o, [], mr, r, by rw [rvs_nil], h.plain fun _ _ => hn _ _ _ _ _⟩
/-- the items of a list of the memory -/
def refL (M : Mem) : D → Option (Nat × List D)
  | .ref n => match M[n]? with
    | some (.lst ds) => some (n, ds)
    | _ => none
  | _ => none
theorem refL_ok (mr : MR K g ρ M H) {d : D} {n : Nat} {ds : List D} {v : V} (e : refL M d = some (n, ds)) (r : RV K g ρ H d v) : ∃ p vs, v = .ref p ∧ ρ[n]? = some p ∧ Live M n ∧ H p = some (.lst vs) ∧ RVs K g ρ H ds vs := by
  unfold refL at e
  split at e
  · split at e
    · rename_i k xs ek
      cases e
      rw [rv_ref] at r
      obtain ⟨p, e1, e2⟩ := r
      obtain ⟨vs, h1, h2⟩ := mr.obj _ _ _ e1 ek
      exact ⟨p, vs, e2, e1, ⟨_, ek, fun z => nomatch z⟩, h1, h2⟩
    · cases e
  · cases e
theorem refL_none {d : D} (h : getL M d = none) : refL M d = none := by
  unfold refL
  unfold getL at h
  split
  · split
    · rename_i e
      simp only [e] at h
      cases h
    · rfl
  · rfl
/-- a list of the memory is replaced -/
theorem set_ok (mr : MR K g ρ M H) {n : Nat} {p : Addr} {ds : List D} {vs : List V} (e : ρ[n]? = some p) (l : Live M n) (r : RVs K g ρ H ds vs) : Ext ρ M H ρ (M.set n (.lst ds)) (upd H p (.lst vs)) ∧ MR K g ρ (M.set n (.lst ds)) (upd H p (.lst vs)) := by
  have x : Ext ρ M H ρ (M.set n (.lst ds)) (upd H p (.lst vs)) := ext_write mr e l
  exact ⟨x, mr_write mr e l ⟨vs, upd_same, x.rvs r⟩⟩
def appendD : OM := fun d ds M => match ds with
  | [y] => match refL M d with
    | some (n, xs) => if decide (xs.length < sizeLine) then .ok .non (M.set n (.lst (xs ++ [y]))) else .no
    | none => .no
  | _ => .no
theorem appendD_noex : NoExM appendD := by
  intro d ds M e M'
  unfold appendD
  repeat' split
  all_goals exact fun z => nomatch z
theorem mt_appendD : MtR X "list.append" (rM X.K g appendD) := by
  rintro pins s σ H x xs v us Q I rx rxs ⟨ρ, M, d, ds, mr, r, rs, h⟩
  unfold appendD at h
  split at h
  · split at h
    · rename_i y _ n zs e
      split at h
      · rename_i hz
        obtain ⟨p, vs, rfl, e1, lv, h1, h2⟩ := refL_ok mr e r
        obtain ⟨y', rfl, ry⟩ := rvs1 rs
        obtain ⟨x2, m2⟩ := set_ok mr e1 lv (h2.append (.one ry))
        exact mt_append pins s σ H _ _ v us Q I rx rxs ⟨p, vs, y', rfl, rfl, h1, by rw [h2.length]; simpa using hz, h _ _ _ x2 m2 (by rw [rv_non])⟩
      · exact h.elim
    · exact h.elim
  · exact h.elim
def popD : OM := fun d ds M => match ds with
  | [] => match refL M d with
    | some (n, xs) => match xs[xs.length - 1]? with
      | some y => .ok y (M.set n (.lst xs.dropLast))
      | none => .no
    | none => .no
  | [.int i] => match refL M d with
    | some (n, xs) => if decide (0 ≤ i ∧ i < 2 ^ 63) then match xs[i.toNat]? with
      | some y => .ok y (M.set n (.lst (xs.eraseIdx i.toNat)))
      | none => .no
      else .no
    | none => .no
  | _ => .no
theorem popD_noex : NoExM popD := by
  intro d ds M e M'
  unfold popD
  repeat' split
  all_goals exact fun z => nomatch z
theorem popD_none (d : D) (M : Mem) (h : getL M d = none) : popD d [] M = .no := by
  unfold popD
  rw [refL_none h]
theorem RVs.eraseIdx : ∀ {ds : List D} {vs : List V} (i : Nat), RVs K g ρ H ds vs → RVs K g ρ H (ds.eraseIdx i) (vs.eraseIdx i)
  | [], _, _, r => by rw [rvs_nil] at r; subst r; simp [rvs_nil]
  | d :: ds, _, 0, r => by
    rw [rvs_cons] at r
    obtain ⟨v, t, e, h1, h2⟩ := r
    subst e
    exact h2
  | d :: ds, _, i + 1, r => by
    rw [rvs_cons] at r
    obtain ⟨v, t, e, h1, h2⟩ := r
    subst e
    rw [List.eraseIdx_cons_succ, List.eraseIdx_cons_succ, rvs_cons]
    exact ⟨_, _, rfl, h1, RVs.eraseIdx i h2⟩
theorem RVs.dropLast {ds : List D} {vs : List V} (r : RVs K g ρ H ds vs) : RVs K g ρ H ds.dropLast vs.dropLast := by
  rw [List.dropLast_eq_take, List.dropLast_eq_take, r.length]
  exact r.take _
theorem mt_popD : MtR X "list.pop" (rM X.K g popD) := by
  rintro pins s σ H x xs v us Q I rx rxs ⟨ρ, M, d, ds, mr, r, rs, h⟩
  unfold popD at h
  split at h
  · split at h
    · rename_i n zs e
      split at h
      · rename_i y ey
        obtain ⟨p, vs, rfl, e1, lv, h1, h2⟩ := refL_ok mr e r
        rw [rvs_nil] at rs
        subst rs
        obtain ⟨x2, m2⟩ := set_ok mr e1 lv h2.dropLast
        obtain ⟨y', ey', ry⟩ := h2.get ey
        exact mt_pop pins s σ H _ _ v us Q I rx rxs ⟨p, vs, y', rfl, rfl, h1, by rw [h2.length]; exact ey', h _ _ _ x2 m2 (x2.rv ry)⟩
      · exact h.elim
    · exact h.elim
  · rename_i i
    split at h
    · rename_i _ n zs e
      split at h
      · rename_i hi
        simp only [decide_eq_true_eq] at hi
        split at h
        · rename_i y ey
          obtain ⟨p, vs, rfl, e1, lv, h1, h2⟩ := refL_ok mr e r
          obtain ⟨i', rfl, ri⟩ := rvs1 rs
          rw [rv_int] at ri
          subst ri
          obtain ⟨x2, m2⟩ := set_ok mr e1 lv (RVs.eraseIdx i.toNat h2)
          obtain ⟨y', ey', ry⟩ := h2.get ey
          have hlt := (List.getElem?_eq_some_iff.mp ey').1
          exact mt_popAt pins s σ H _ _ v us Q I rx rxs ⟨p, vs, i, i.toNat, y', rfl, rfl, h1, by omega, hi.2, seqIndex_of hi.1 (by omega), ey', h _ _ _ x2 m2 (x2.rv ry)⟩
        · exact h.elim
      · exact h.elim
    · exact h.elim
  · exact h.elim

/-! ### a dict's display, keys constant -/
def dispL : List (Key × EE) → Loc → Mem → Rs (List (Key × D))
  | [], _, M => .ok [] M
  | (k, m) :: r, δ, M => (m δ M).bind fun d M1 => (dispL r δ M1).bind fun l M2 => .ok ((k, d) :: l) M2
def mergeD (l : List (Key × D)) : List (Key × D) := l.foldl (fun acc kv => putD acc kv.1 kv.2) []
def eDisp (ps : List (Key × EE)) : EE := fun δ M => (dispL ps δ M).bind fun l M1 => .ok (.ref M1.length) (M1 ++ [.dK (mergeD l)])
def trsOf (K : PySem.W.Frag) (g : Gm) (W : WX) (ps : List (Key × EE)) : List (TE × TE) := ps.map fun kv => (tC (kV kv.1), tE K g W kv.2)
structure DPs (X : Cx) (g : Gm) (W : WX) (pos : Pos) (keys : List (Option Expr)) (vals : List Expr) (ps : List (Key × EE)) : Prop where
  pps : PPs X pos keys vals (trsOf X.K g W ps)
theorem dps_nil : DPs X g W pos [] [] [] := ⟨pps_nil⟩
theorem dps_str {x : Str} {j : Nat} {p : Pos} {v : Expr} {mv : EE} {ks : List (Option Expr)} {vs : List Expr} {ps : List (Key × EE)} (hv : DE X g W v mv) (hr : DPs X g W pos ks vs ps) : DPs X g W pos (some (.Constant (.str x) j p) :: ks) (v :: vs) ((.inr x, mv) :: ps) := ⟨pps_cons pe_str hv.pe hr.pps⟩
theorem disp_read : ∀ {ps : List (Key × EE)} {ρ : List Addr} {δ : Loc} {M : Mem} {H : Hp} {Qp : List (V × V) → Hp → Prop}, MR K g ρ M H → SR K g ρ H δ σ →
    rOk K g (fun ρ' H' (l : List (Key × D)) (l' : List (Key × V)) => KVr K g ρ' H' l l') W ρ M σ H (dispL ps δ M) (fun l' H' => Qp (l'.map fun kv => (kV kv.1, kv.2)) H') → tPairs (trsOf K g W ps) σ H Qp
  | [], ρ, δ, M, H, Qp, mr, sr, h => h ρ [] H .refl mr ⟨rfl, by rw [List.map_nil, List.map_nil, rvs_nil]⟩
  | (k, m) :: ps, ρ, δ, M, H, Qp, mr, sr, h => by
    show tC (kV k) σ H fun x H1 => tE K g W m σ H1 fun y H2 => tPairs (trsOf K g W ps) σ H2 fun qs H3 => Qp ((x, y) :: qs) H3
    show tE K g W m σ H fun y H2 => tPairs (trsOf K g W ps) σ H2 fun qs H3 => Qp ((kV k, y) :: qs) H3
    rw [dispL] at h
    refine ⟨ρ, δ, M, mr, sr, ?_⟩
    cases e : m δ M with
    | no => rw [e] at h; exact h
    | ex x M1 => rw [e] at h; exact h
    | ok d M1 =>
      rw [e, Rs.bind_ok] at h
      intro ρ1 v H1 x1 m1 r1
      have h1 := h.at x1 mr.len m1.len
      refine disp_read m1 (x1.sr sr) ?_
      cases e2 : dispL ps δ M1 with
      | no => rw [e2] at h1; exact h1
      | ex x M2 => rw [e2] at h1; exact h1
      | ok l M2 =>
        rw [e2, Rs.bind_ok] at h1
        intro ρ2 l' H2 x2 m2 r2
        refine h1 ρ2 ((k, v) :: l') H2 x2 m2 ⟨by simp only [List.map_cons]; rw [r2.1], by simp only [List.map_cons]; rw [rvs_cons]; exact ⟨_, _, rfl, x2.rv r1, r2.2⟩⟩
theorem kvr_merge : ∀ {l : List (Key × D)} {l' : List (Key × V)} {acc : List (Key × D)} {acc' : List (Key × V)}, KVr K g ρ H l l' → KVr K g ρ H acc acc' → KVr K g ρ H (l.foldl (fun acc kv => putD acc kv.1 kv.2) acc) (mergeK acc' l')
  | [], l', acc, acc', h, h0 => by
    have : l' = [] := by simpa using h.1.symm
    subst this
    exact h0
  | (k, d) :: l, [], _, _, h, _ => absurd h.1 (by simp)
  | (k, d) :: l, (k', v) :: l', acc, acc', h, h0 => by
    obtain ⟨h1, h2⟩ := h
    simp only [List.map_cons, List.cons.injEq] at h1
    rw [List.map_cons, List.map_cons, rvs_cons] at h2
    obtain ⟨v1, t, e, h3, h4⟩ := h2
    simp only [List.cons.injEq] at e
    obtain ⟨e1, e2⟩ := e
    obtain ⟨h5, h6⟩ := h1
    subst h5 e1 e2
    exact kvr_merge (l := l) (l' := l') ⟨h6, h4⟩ (kvr_put k h0 h3)
theorem de_disp {keys : List (Option Expr)} {vals : List Expr} {ps : List (Key × EE)} (h : DPs X g W pos keys vals ps) (hl : keys.length = ps.length) (hall : keys.all (·.isSome) = true := by rfl) (hl2 : keys.length = vals.length := by rfl) (h0 : keys ≠ [] := by exact List.cons_ne_nil _ _) (h15 : keys.length ≤ 15 := by decide) :
    DE X g W (.Dict keys vals pos) (eDisp ps) := by
  refine ⟨PE.imp (pe_disp h.pps hall hl2 h0 h15) fun σ H Q ⟨ρ, δ, M, mr, sr, h⟩ p hp => ?_⟩
  have x0 : Ext ρ M H ρ M (upd H p (.dK [])) := ext_new hp
  have m0 : MR X.K g ρ M (upd H p (.dK [])) := mr_new mr hp
  unfold eDisp at h
  refine disp_read m0 (x0.sr sr) ?_
  have h' : rOk X.K g (RV X.K g) W ρ M σ (upd H p (.dK [])) ((dispL ps δ M).bind fun l M1 => .ok (.ref M1.length) (M1 ++ [.dK (mergeD l)])) Q := h.at x0 mr.len mr.len
  have nl0 : ¬ Lv ρ M p := by
    rintro ⟨n, en, lv⟩
    obtain ⟨u, eu, _⟩ := mr.live_some en lv
    rw [hp] at eu
    cases eu
  have lenD : ∀ {ps : List (Key × EE)} {M : Mem} {l : List (Key × D)} {M1 : Mem}, dispL ps δ M = .ok l M1 → l.length = ps.length := by
    intro ps
    induction ps with
    | nil => intro M l M1 e; rw [dispL] at e; cases e; rfl
    | cons kv ps ih =>
      intro M l M1 e
      obtain ⟨k, m⟩ := kv
      rw [dispL] at e
      cases e1 : m δ M with
      | no => rw [e1] at e; cases e
      | ex _ _ => rw [e1] at e; cases e
      | ok d M2 =>
        rw [e1, Rs.bind_ok] at e
        cases e2 : dispL ps δ M2 with
        | no => rw [e2] at e; cases e
        | ex _ _ => rw [e2] at e; cases e
        | ok l2 M3 =>
          rw [e2, Rs.bind_ok] at e
          cases e
          rw [List.length_cons, List.length_cons, ih e2]
  cases e : dispL ps δ M with
  | no => rw [e] at h; exact h.elim
  | ex x M1 => rw [e] at h'; exact h'
  | ok l M1 =>
    rw [e, Rs.bind_ok] at h
    intro ρ1 l' H1 x1 m1 r1
    have hp1 : H1 p = some (.dK []) := x1.frame p _ upd_same nl0 (fun _ z => nomatch z)
    have nl1 := nolv_of x1 mr.len nl0 (upd_same (H := H) (o := .dK []))
    refine ⟨hp1, l', rfl, ?_, ?_⟩
    · have e1 := lenD e
      have e2 := KVr.length r1
      omega
    · obtain ⟨m2, k2⟩ := mr_sideO (o := .dK (mergeK [] l')) m1 nl1 hp1 (fun _ z => nomatch z) (fun _ _ z => nomatch z) (fun _ z => nomatch z) (fun _ z => nomatch z)
      have x2 : Ext ρ M H ρ1 M1 (upd H1 p (.dK (mergeK [] l'))) := ext_side (o' := .lst []) (x0.trans x1 mr.len mr.len) hp
      obtain ⟨x3, m3⟩ := join_at (o := .dK (mergeD l)) x2 mr.len m2 nl1 hp ⟨_, upd_same, KVr.mono k2 .refl (kvr_merge r1 ⟨rfl, by rw [List.map_nil, List.map_nil, rvs_nil]⟩)⟩
      refine h _ _ _ x3 m3 ?_
      rw [rv_ref]
      refine ⟨p, ?_, rfl⟩
      rw [← m2.len, List.getElem?_append_right (Nat.le_refl _)]
      simp
end
end
end Dl

set_option Elab.async false
set_option linter.all false
set_option autoImplicit false
set_option maxRecDepth 100000
set_option maxHeartbeats 4000000
/-! The D-layer: dict(pairs) with tuples as keys, list(range). -/
namespace Dl
noncomputable section
open PySem PySem.Spec PyProof.Rows L2
section
variable {X : Cx} {g : Gm} {W : WX} {K : PySem.W.Frag} {σ : L2.St} {H H' : Hp} {ρ ρ' : List Addr} {M M' : Mem} {pins : List (Addr × Obj)} {s : Shared} {a e : Expr} {es : List Expr} {ma mo : EE} {as : AA} {pos : Pos}
def pairsT : List D → Option (List (List Key × D))
  | [] => some []
  | .tup [k, v] :: ds => match tkeyOf k, pairsT ds with
    | some ks, some r => some ((ks, v) :: r)
    | _, _ => none
  | _ => none
def mergeT (l : List (List Key × D)) : List (List Key × D) := l.foldl (fun acc kv => putD acc kv.1 kv.2) []
def dictTD : OL := fun ds M => match ds with
  | [d] => match (getS M d).bind pairsT with
    | some l => .ok (.ref M.length) (M ++ [.dT (mergeT l)])
    | none => .no
  | _ => .no
theorem dictTD_noex : NoExL dictTD := by
  intro ds M e M'
  unfold dictTD
  repeat' split
  all_goals exact fun z => nomatch z
abbrev QQ := Addr × List Key × Addr × Value
theorem pairsT_ok (I : Inv X pins σ H s) : ∀ {ds : List D} {l : List (List Key × D)} {vs : List V}, pairsT ds = some l → RVs X.K g ρ H ds vs →
    ∃ (qs : List QQ) (l' : List (List Key × V)), vs = qs.map (fun q => V.ref q.1) ∧ KVr X.K g ρ H l l' ∧ KT H l' (qs.map (·.2)) ∧ ∀ q ∈ qs, s.heap.IsTuple q.1 #[.ref q.2.2.1, q.2.2.2]
  | [], l, vs, e, r => by
    rw [pairsT] at e
    cases e
    rw [rvs_nil] at r
    subst r
    exact ⟨[], [], rfl, ⟨rfl, by rw [List.map_nil, List.map_nil, rvs_nil]⟩, .nil, fun q hq => by simp at hq⟩
  | d :: ds, l, vs, e, r => by
    rw [rvs_cons] at r
    obtain ⟨v, t, ev, r1, r2⟩ := r
    subst ev
    unfold pairsT at e
    split at e
    · rename_i h0; cases h0
    · rename_i k d' ds' h0
      cases h0
      split at e
      · rename_i ks rr ek er
        cases e
        obtain ⟨qs, l', h1, h2, h3, h4⟩ := pairsT_ok I er r2
        rw [rv_tup] at r1
        obtain ⟨p, ws, ev, hp, rw'⟩ := r1
        obtain ⟨kv, dv, ew, rk, rd⟩ := rvs2 rw'
        subst ew
        obtain ⟨b, eb, sb⟩ := tkeyOf_ok rk ek
        subst eb
        obtain ⟨its, ri, ht, _⟩ := I.tuple (SqT.of hp)
        obtain ⟨u, y, ei, ru, ry⟩ := vals2 ri
        cases ru
        refine ⟨(p, ks, b, y) :: qs, (ks, dv) :: l', by rw [ev, h1]; rfl, ⟨by simp only [List.map_cons]; rw [h2.1], by simp only [List.map_cons]; rw [rvs_cons]; exact ⟨_, _, rfl, rd, h2.2⟩⟩, .cons ⟨rfl, sb, ry⟩ h3, fun q hq => ?_⟩
        rcases List.mem_cons.mp hq with rfl | hq
        · have : IsTup s.heap p #[.ref b, y] := by rw [← ei]; exact ht
          exact this
        · exact h4 q hq
      · cases e
    · cases e
theorem kt_merge {H : Hp} : ∀ {l : List (List Key × V)} {xs : List (List Key × Addr × Value)} {acc : List (List Key × V)} {acc' : List (List Key × Addr × Value)}, KT H l xs → KT H acc acc' → KT H (l.foldl (fun acc kv => putK acc kv.1 kv.2) acc) (storedAllH acc' xs)
  | _, _, _, _, .nil, h0 => h0
  | _ :: l, _ :: xs, acc, acc', .cons (a := p) (b := q) h t, h0 => by
    have h1 : KT H (putK acc p.1 p.2) (storedH acc' q.1 q.2.1 q.2.2) := by
      have := h0.put p.1 h.2.1 h.2.2
      rw [← h.1]
      exact this
    exact kt_merge (l := l) (xs := xs) t h1
theorem kvrT_merge : ∀ {l : List (List Key × D)} {l' : List (List Key × V)} {acc : List (List Key × D)} {acc' : List (List Key × V)}, KVr K g ρ H l l' → KVr K g ρ H acc acc' →
    KVr K g ρ H (l.foldl (fun acc kv => putD acc kv.1 kv.2) acc) (l'.foldl (fun acc kv => putK acc kv.1 kv.2) acc')
  | [], l', acc, acc', h, h0 => by
    have : l' = [] := by simpa using h.1.symm
    subst this
    exact h0
  | (k, d) :: l, [], _, _, h, _ => absurd h.1 (by simp)
  | (k, d) :: l, (k', v) :: l', acc, acc', h, h0 => by
    obtain ⟨h1, h2⟩ := h
    simp only [List.map_cons, List.cons.injEq] at h1
    rw [List.map_cons, List.map_cons, rvs_cons] at h2
    obtain ⟨v1, t, e, h3, h4⟩ := h2
    simp only [List.cons.injEq] at e
    obtain ⟨e1, e2⟩ := e
    obtain ⟨h5, h6⟩ := h1
    subst h5 e1 e2
    exact kvrT_merge (l := l) (l' := l') ⟨h6, h4⟩ (kvr_put k h0 h3)
theorem length_foldT : ∀ (l acc : List (List Key × V)), (l.foldl (fun acc kv => putK acc kv.1 kv.2) acc).length ≤ acc.length + l.length
  | [], acc => Nat.le_refl _
  | p :: l, acc => by
    have h1 := length_foldT l (putK acc p.1 p.2)
    have h2 := length_putK acc p.1 p.2
    rw [List.foldl_cons, List.length_cons]
    omega
theorem dc_dictT (hc : X.calm = true) (hu : X.A.units + 64 < cLine) : DC X g (.type "dict") dictTD := by
  rintro pins s σ H xs us Q I rr ⟨ρ, M, ds, mr, r, h⟩
  unfold dictTD at h
  split at h
  · rename_i d
    obtain ⟨v, rfl, r1⟩ := rvs1 r
    split at h
    · rename_i l el
      cases e1 : getS M d with
      | none => rw [e1] at el; cases el
      | some zs =>
        rw [e1] at el
        have el : pairsT zs = some l := el
        obtain ⟨p, vs, rfl, s1, q1⟩ := getS_ok mr e1 r1
        obtain ⟨qs, l', h1, h2, h3, h4⟩ := pairsT_ok I el q1
        obtain ⟨its, rv, pl, hl⟩ := I.list s1
        obtain ⟨u, rfl, rx⟩ := vals1 rr
        cases rx
        have hits : its = qs.map fun q => Value.ref q.1 := by
          have e : (qs.map fun q => V.ref q.1) = (qs.map (·.1)).map V.ref := by rw [List.map_map]; rfl
          rw [h1, e] at rv
          rw [refs_at rv, List.map_map]
          rfl
        have hln : qs.length ≤ sizeLine := by
          have := hl
          rw [h1] at this
          simpa using this
        have hll : l'.length = qs.length := by rw [Paired.length h3, List.length_map]
        obtain ⟨o, n, ho, hcl, hd, hdat⟩ := pl
        have pit : PairItems s.heap its.toArray (fun j => (qs[j]?.map (·.1)).getD 0) (qs.map fun q => (Value.ref q.2.2.1, q.2.2.2)) := by
          refine ⟨by rw [hits]; simp, fun j k v hj => ?_⟩
          rw [List.getElem?_map] at hj
          cases eq : qs[j]? with
          | none => rw [eq] at hj; cases hj
          | some q =>
            rw [eq] at hj
            cases hj
            exact ⟨by rw [hits]; simp [eq], .inl (by simpa [eq] using h4 q (List.mem_of_getElem? eq))⟩
        have ks : ∀ {h' : Heap}, (∀ b o, b ≠ s.heap.objs.size → s.heap.get? b = some o → h'.get? b = some o) → ∀ x ∈ qs.map (·.2), (tupleKind (mixKind X.prog X.w)).is h' x.1 x.2.1 := fun {h'} hk x hx => by
          have all : ∀ {l : List (List Key × V)} {m : List (List Key × Addr × Value)}, KT H l m → ∀ x ∈ m, (tupleKind (mixKind X.prog X.w)).is s.heap x.1 x.2.1 := by
            intro l m q
            induction q with
            | nil => intro x hx; exact nomatch hx
            | @cons p q ps qs hq t ih =>
              intro x hx
              rcases List.mem_cons.mp hx with e | hx
              · subst e
                exact key_of I.hok (by rw [← hq.1]; exact hq.2.1)
              · exact ih x hx
          obtain ⟨ob, items, m, g1, g2, g3, g4⟩ := all h3 x hx
          exact ⟨ob, items, m, hk _ _ (Nat.ne_of_lt (Heap.lt_size g1)) g1, g2, g3, g4⟩
        refine PySem.call_dict_pairsH (knd := tupleKind (mixKind X.prog X.w)) (ps := qs.map (·.2)) (PairArg.list p its.toArray _ _) (I.ok.hd hc) (show X.A.in1.in1.units < cLine by show X.A.units + 1 + 1 < cLine; omega) ⟨⟨o, n, ho, hcl, hd, hdat⟩, pit⟩ ⟨by simp, fun i key v hi => ?_⟩ (fun h' hk x hx => ks (fun b o hb e => hk b o hb (by simp) e) x hx) (by simpa using hln) fun h' tk dd hk => ?_
        · have hi' : (qs.map fun q => (Value.ref q.2.2.1, q.2.2.2))[i]? = some (key, v) := hi
          rw [List.getElem?_map] at hi'
          cases eq : qs[i]? with
          | none => rw [eq] at hi'; cases hi'
          | some q =>
            rw [eq] at hi'
            cases hi'
            exact ⟨q.2.1, q.2.2.1, by rw [List.getElem?_map, eq]; rfl, rfl⟩
        · obtain ⟨o', es, ep, g1, g2, g3, g4, g5, g6⟩ := dd
          have hb : (s.heap.objs.size == sysModules) = false := beq_eq_false_iff_ne.mpr (Nat.ne_of_gt I.big)
          have hf := I.hok.fresh (Nat.le_refl s.heap.objs.size)
          have ktm : KT H (l'.foldl (fun acc kv => putK acc kv.1 kv.2) []) (storedAllH [] (qs.map (·.2))) := kt_merge h3 .nil
          have I2 := I.laid (t' := tk) (a := s.heap.objs.size) (o := .dT (l'.foldl (fun acc kv => putK acc kv.1 kv.2) [])) (fun b o e => hk b o (by simp) e) (Nat.le_refl _)
            ⟨by have := length_foldT l' []; simp at this; omega, hb, _, KT.keeps ktm fun b ys q => (by rw [upd_ne (ne_of_none q hf)]; exact q), o', es, ep, g1, g2, g3, g4, g6⟩
          refine ⟨.ref s.heap.objs.size, _, I2, rfl, ?_⟩
          have x : Ext ρ M H (ρ ++ [s.heap.objs.size]) (M ++ [.dT (mergeT l)]) (upd H s.heap.objs.size (.dT (l'.foldl (fun acc kv => putK acc kv.1 kv.2) []))) := ext_live mr.len hf
          have ro : RO X.K g (ρ ++ [s.heap.objs.size]) (upd H s.heap.objs.size (.dT (l'.foldl (fun acc kv => putK acc kv.1 kv.2) []))) s.heap.objs.size (.dT (mergeT l)) :=
            ⟨_, upd_same, kvrT_merge (KVr.mono x.kp x.pre h2) ⟨rfl, by rw [List.map_nil, List.map_nil, rvs_nil]⟩⟩
          refine h _ _ _ x (mr_live mr hf ro) ?_
          rw [rv_ref]
          refine ⟨s.heap.objs.size, ?_, rfl⟩
          rw [← mr.len, List.getElem?_append_right (Nat.le_refl _)]
          simp
    · exact h.elim
  · exact h.elim

/-! ### list(range(..)), tuple(range(..)) -/
def rngD (a b : Int) : List D := (List.range (b - a).toNat).map fun i => D.int (a + (i : Nat))
def rgOk (a b : Int) : Bool := cdec (-(2 ^ 62) ≤ a ∧ a < 2 ^ 62 ∧ -(2 ^ 62) ≤ b ∧ b < 2 ^ 62 ∧ (b - a).toNat ≤ 2 ^ 24)
theorem rvs_rng (a b : Int) : RVs K g ρ H (rngD a b) (rgV a b) := by
  unfold rngD rgV
  induction List.range (b - a).toNat with
  | nil => rw [List.map_nil, List.map_nil, rvs_nil]
  | cons i l ih => rw [List.map_cons, List.map_cons, rvs_cons]; exact ⟨_, _, rfl, by rw [rv_int], ih⟩
def listRg (fz : Bool) (a b : Int) (M : Mem) : Rs D := if rgOk a b then mkL fz (rngD a b) M else .no
def eListR1 (fz : Bool) (m : EE) : EE := fun δ M => (m δ M).bind fun d M1 => match d with
  | .int n => listRg fz 0 n M1
  | _ => .no
def eListR2 (fz : Bool) (m n : EE) : EE := fun δ M => (m δ M).bind fun d M1 => (n δ M1).bind fun d' M2 => match d, d' with
  | .int i, .int j => listRg fz i j M2
  | _, _ => .no
theorem listRg_noex {fz : Bool} {a b : Int} {M : Mem} {y : Exn} {M' : Mem} : listRg fz a b M ≠ .ex y M' := by
  unfold listRg
  split
  · exact mkL_noex
  · exact fun z => nomatch z
theorem listRg_ok {fz : Bool} {i j : Int} {Q : VK} (mr : MR K g ρ M H) (h : pOk K g (RV K g) ρ M H (listRg fz i j M) Q) : RgOk i j ∧ ∀ q, H q = none → qFz Q (.ref q) (upd H q (.lst (rgV i j))) := by
  unfold listRg at h
  split at h
  · rename_i ok
    exact ⟨show _ ∧ _ from cdec_iff.mp (by unfold rgOk at ok; exact ok), fun q hq => mkL_ok mr hq (rvs_rng i j) h⟩
  · exact h.elim
theorem de_listR1 (fz : Bool) {p p2 pos2 : Pos} (hc : X.calm = true) (hm : X.mg "list" = none) (hm2 : X.mg "range" = none) (hg : Gl X "list") (hg2 : Gl X "range") (ha : DE X g W a ma) (na : starEach [a] X.env = (false, eval a X.env) :: starEach [] X.env := by rfl)
    (nb : starEach [.Call (.Name "range" p2) [a] [] pos2] X.env = (false, eval (.Call (.Name "range" p2) [a] [] pos2) X.env) :: starEach [] X.env := by rfl) : DE X g W (.Call (.Name "list" p) [.Call (.Name "range" p2) [a] [] pos2] [] pos) (eListR1 fz ma) := by
  refine ⟨PE.imp (PE.fz (pe_listRg hc hg hm (prg_1 hg2 hm2 ha.pe na) nb)) fun σ H Q h => ?_⟩
  have h1 := tD_bind (R1 := RV X.K g) (m := ma) (f := fun d _ M1 => match d with | .int n => listRg fz 0 n M1 | _ => .no) h
  refine tD_mono h1 fun v H1 ⟨ρ, δ, M, d, mr, sr, r, h⟩ => ?_
  split at h
  · rw [rv_int] at r
    subst r
    exact ⟨_, rfl, listRg_ok mr (h.plain fun _ _ => listRg_noex)⟩
  · exact h.elim
end
end
end Dl

set_option Elab.async false
set_option linter.all false
set_option autoImplicit false
set_option maxRecDepth 100000
set_option maxHeartbeats 4000000
/-! The D-layer: isinstance, a, b, c = x, y, z. -/
namespace Dl
open PySem PySem.Spec PyProof.Rows L2
section
variable {X : Cx} {g : Gm} {W : WX} {K : PySem.W.Frag} {σ : L2.St} {H H' : Hp} {ρ ρ' : List Addr} {M M' : Mem} {pins : List (Addr × Obj)} {s : Shared} {a b c e : Expr} {es : List Expr} {ma mo : EE} {as : AA} {pos : Pos}
/-! ### isinstance -/
def tyD (M : Mem) : D → Option String
  | .non => some "NoneType"
  | .bl _ => some "bool"
  | .int _ => some "int"
  | .str _ => some "str"
  | .tup _ => some "tuple"
  | .lst _ => some "list"
  | .ref n => match M[n]? with
    | some (.lst _) => some "list"
    | some (.dK _) => some "dict"
    | some (.dT _) => some "dict"
    | _ => none
  | _ => none
def tyNames : List String := ["NoneType", "bool", "int", "str", "tuple", "list", "dict"]
def tyAsked : List String := ["bool", "int", "str", "tuple", "list", "dict"]
def isiB (a b : String) : Bool := a == b || (a == "bool" && b == "int")
theorem kit_tab : ∀ a ∈ tyNames, ∀ b ∈ tyAsked, kitB a b = some (isiB a b) := by decide +kernel
theorem tyD_ok (mr : MR K g ρ M H) {d : D} {v : V} {t : String} (e : tyD M d = some t) (r : RV K g ρ H d v) : TyX K H v (.type t) ∧ t ∈ tyNames := by
  cases d with
  | non => cases e; rw [rv_non] at r; subst r; exact ⟨.base .non, by decide⟩
  | bl b => cases e; rw [rv_bl] at r; subst r; exact ⟨.base (.bl b), by decide⟩
  | int b => cases e; rw [rv_int] at r; subst r; exact ⟨.base (.int b), by decide⟩
  | str b => cases e; rw [rv_str] at r; subst r; exact ⟨.base (.str b), by decide⟩
  | tup ds => cases e; rw [rv_tup] at r; obtain ⟨p, vs, rfl, h, _⟩ := r; exact ⟨.base (.tup h), by decide⟩
  | lst ds => cases e; rw [rv_lst] at r; obtain ⟨p, vs, rfl, ⟨o, h⟩, _⟩ := r; exact ⟨.base (.frz h), by decide⟩
  | ref n =>
    rw [rv_ref] at r
    obtain ⟨p, e1, rfl⟩ := r
    simp only [tyD] at e
    split at e
    · rename_i ds em
      cases e
      obtain ⟨vs, h, _⟩ := mr.obj _ _ _ e1 em
      exact ⟨.base (.lst h), by decide⟩
    · rename_i ds em
      cases e
      obtain ⟨vs, h, _⟩ := mr.obj _ _ _ e1 em
      exact ⟨.base (.dK h), by decide⟩
    · rename_i ds em
      cases e
      obtain ⟨vs, h, _⟩ := mr.obj _ _ _ e1 em
      exact ⟨.base (.dT h), by decide⟩
    · cases e
  | _ => cases e
def isiD : OL := fun ds M => match ds with
  | [d, .ty T] => match tyD M d with
    | some t => if T ∈ tyAsked then .ok (.bl (isiB t T)) M else .no
    | none => .no
  | _ => .no
theorem isiD_noex : NoExL isiD := by
  intro ds M e M'
  unfold isiD
  repeat' split
  all_goals exact fun z => nomatch z
theorem dc_isi : DC X g (.builtin "isinstance") isiD := by
  rintro pins s σ H xs us Q I rr ⟨ρ, M, ds, mr, r, h⟩
  unfold isiD at h
  split at h
  · obtain ⟨v, v', rfl, r1, r2⟩ := rvs2 r
    rw [rv_ty] at r2
    subst r2
    split at h
    · rename_i d T _ t et
      split at h
      · rename_i hT
        obtain ⟨tx, ht⟩ := tyD_ok mr et r1
        exact call_isi pins s σ H _ us Q I rr ⟨v, _, _, _, _, rfl, .ty T, tx, kit_ty (kit_tab t ht T hT), h.now mr (by rw [rv_bl])⟩
      · exact h.elim
    · exact h.elim
  · exact h.elim
/-- a built-in type as a value -/
theorem de_ty {T : String} {x : Str} (hm : X.mg x = none) (hv : bootBuiltins x = some (.type T)) (hg : Gl X x) (hn : x ≠ "__name__" := by decide) (hd : (x == ("__debug__" : Str)) = false := by decide) : DE X g W (.Name x pos) (eC (.ty T)) :=
  de_c (pe_bltn (v := .ty T) hg hm hv rfl hn hd) fun _ _ => by rw [rv_ty]

/-! ### a, b, c = x, y, z -/
theorem ds_par3 (i j l : Nat) {x y z : Str} {as : AA} {px py pz pt : Pos} {kt k2 : Nat} {pt2 : Pos} (hc : X.calm = true) (hN : X.N.Nodup) (ha : DA X g W [a, b, c] as) (hij : i ≠ j := by decide) (hil : i ≠ l := by decide) (hjl : j ≠ l := by decide) (hi : X.N[i]? = some x := by rfl) (hj : X.N[j]? = some y := by rfl) (hl : X.N[l]? = some z := by rfl)
    (hx : X.env.scope.names.lookup x = some .local := by rfl) (hy : X.env.scope.names.lookup y = some .local := by rfl) (hz : X.env.scope.names.lookup z = some .local := by rfl)
    (hw : swappedStores [.Tuple [.Name x px, .Name y py, .Name z pz] kt pt] (.Tuple [a, b, c] k2 pt2) X.env = pure (some [x, y, z]) := by rfl)
    (hs : swapsWithSole [.Tuple [.Name x px, .Name y py, .Name z pz] kt pt] (.Tuple [a, b, c] k2 pt2) pos.line X.env = pure false := by rfl) :
    DS X g W (.Assign [.Tuple [.Name x px, .Name y py, .Name z pz] kt pt] (.Tuple [a, b, c] k2 pt2) pos) (sPar3 i j l as) := by
  refine ⟨PS.imp (ps_par3 hc hN hi hj hl hij hil hjl hx hy hz ha.pa hw hs) fun D σ H ⟨ρ, δ, M, mr, sr, h⟩ => tD_mono (tD_stm (R := RVs X.K g) (k := fun ds M1 => match ds with | [d, e, f] => .nx (((δ.set i (some d)).set j (some e)).set l (some f)) M1 | _ => .no) mr sr h) fun v H1 ⟨ρ1, M1, ds, e1, m1, s1, r1, h1⟩ => ?_⟩
  split at h1
  · rename_i d e f
    rw [rvs_cons] at r1
    obtain ⟨v1, r, ev, q1, r1⟩ := r1
    obtain ⟨v2, v3, ev2, q2, q3⟩ := rvs2 r1
    subst ev2 ev
    exact ⟨v1, v2, v3, rfl, h1 ρ1 _ H1 .refl m1 (((s1.set i q1).set j q2).set l q3)⟩
  · exact h1.elim
end
end Dl

set_option Elab.async false
set_option linter.all false
set_option autoImplicit false
set_option maxRecDepth 100000
set_option maxHeartbeats 4000000
/-! The D-layer: what the printed derivations name. -/
namespace Dl
open PySem PySem.Spec PyProof.Rows L2
/-- the built-in names that the module leaves alone -/
structure Bt (mg : Str → Option Value) : Prop where
  len : mg "len" = none
  abs : mg "abs" = none
  int : mg "int" = none
  bool : mg "bool" = none
  str : mg "str" = none
  min : mg "min" = none
  max : mg "max" = none
  sum : mg "sum" = none
  all : mg "all" = none
  any : mg "any" = none
  tuple : mg "tuple" = none
  list : mg "list" = none
  dict : mg "dict" = none
  sorted : mg "sorted" = none
  repr : mg "repr" = none
  isinstance : mg "isinstance" = none
  range : mg "range" = none
  enumerate : mg "enumerate" = none
  zip : mg "zip" = none
theorem bt_len : bootBuiltins "len" = some (.builtin "len") := by decide +kernel
theorem bt_abs : bootBuiltins "abs" = some (.builtin "abs") := by decide +kernel
theorem bt_int : bootBuiltins "int" = some (.type "int") := by decide +kernel
theorem bt_bool : bootBuiltins "bool" = some (.type "bool") := by decide +kernel
theorem bt_str : bootBuiltins "str" = some (.type "str") := by decide +kernel
theorem bt_min : bootBuiltins "min" = some (.builtin "min") := by decide +kernel
theorem bt_max : bootBuiltins "max" = some (.builtin "max") := by decide +kernel
theorem bt_sum : bootBuiltins "sum" = some (.builtin "sum") := by decide +kernel
theorem bt_all : bootBuiltins "all" = some (.builtin "all") := by decide +kernel
theorem bt_any : bootBuiltins "any" = some (.builtin "any") := by decide +kernel
theorem bt_tuple : bootBuiltins "tuple" = some (.type "tuple") := by decide +kernel
theorem bt_list : bootBuiltins "list" = some (.type "list") := by decide +kernel
theorem bt_dict : bootBuiltins "dict" = some (.type "dict") := by decide +kernel
theorem bt_sorted : bootBuiltins "sorted" = some (.builtin "sorted") := by decide +kernel
theorem bt_repr : bootBuiltins "repr" = some (.builtin "repr") := by decide +kernel
theorem bt_isinstance : bootBuiltins "isinstance" = some (.builtin "isinstance") := by decide +kernel
section
variable {X : Cx} {g : Gm} {W : WX} {pos : Pos}
/-- a def as a value -/
theorem de_fnC {k i n : Nat} {x : Str} {F : FF} (c : Cl X.prog X.w X.K X.mg X.base g k i x n F) (hg : Gl X x) (hd : (x == ("__debug__" : Str)) = false := by decide) : DE X g W (.Name x pos) (eC (.fn i)) := by
  obtain ⟨f, fd, ps, h1, h2, h3, h4, h5⟩ := c.ex
  exact de_fn h1 hg h3 hd
end
end Dl

set_option Elab.async false
set_option linter.all false
set_option autoImplicit false
set_option maxRecDepth 100000
set_option maxHeartbeats 4000000
/-! The D-layer: x[::-1], x a tuple or a list. -/
namespace Dl
noncomputable section
open PySem PySem.Spec PyProof.Rows L2 HT
section
variable {prog : Program} {w : World} {A : Around} {E : Value → Shared → Prop} {s : Shared}
theorem adjust_rev (n : Nat) : Builtin.Slice.sliceAdjust none none (-1) (n : Int) = ((n : Int) - 1, -1) := rfl
theorem places_rev (n : Nat) : Builtin.Slice.slicePlaces ((n : Int) - 1) (-1) (-1) = n := by
  unfold Builtin.Slice.slicePlaces
  have h1 : ¬ ((-1 : Int) > 0) := by omega
  rw [if_neg h1]
  split
  · rw [show -(-1 : Int) = 1 by omega, Int.ediv_one]; omega
  · omega
theorem filterMap_some {α β : Type} {f : α → Option β} {g : α → β} : ∀ {l : List α}, (∀ m ∈ l, f m = some (g m)) → l.filterMap f = l.map g
  | [], _ => rfl
  | m :: l, h => by
    rw [List.filterMap_cons_some (h m List.mem_cons_self), List.map_cons, filterMap_some fun x hx => h x (List.mem_cons_of_mem _ hx)]
theorem pick_rev (xs : Array Value) : ((List.range xs.size).filterMap fun (m : Nat) => xs[((xs.size : Int) - 1 + (m : Int) * -1).toNat]?).toArray = xs.toList.reverse.toArray := by
  congr 1
  have e : (List.range xs.size).filterMap (fun (m : Nat) => xs[((xs.size : Int) - 1 + (m : Int) * -1).toNat]?) = (List.range xs.size).map fun m => xs.toList.reverse[m]?.getD .none := by
    refine filterMap_some fun m hm => ?_
    have hm' := List.mem_range.mp hm
    have h2 : ((xs.size : Int) - 1 + (m : Int) * -1).toNat = xs.size - 1 - m := by omega
    have hl : m < xs.toList.length := by simpa using hm'
    rw [h2, List.getElem?_reverse hl, Array.length_toList, Array.getElem?_toList, Array.getElem?_eq_getElem (show xs.size - 1 - m < xs.size by omega)]
    rfl
  rw [e]
  refine List.ext_getElem? fun i => ?_
  by_cases h : i < xs.size
  · have hl : i < xs.toList.reverse.length := by simpa using h
    rw [List.getElem?_map, List.getElem?_range h, Option.map_some, List.getElem?_eq_getElem hl]
    rfl
  · rw [List.getElem?_eq_none (by simp; omega), List.getElem?_eq_none (by simp; omega)]
theorem sliceApplied_rev {sl : Addr} {vl vu vs : Value} {n : Nat} {Q : Int × Int × Nat → Shared → Prop} (hs : s.heap.IsSliceOf sl vl vu vs) (pl : IsPart vl none) (pu : IsPart vu none) (ps : IsPart vs (some (-1)))
    (h : Q ((n : Int) - 1, -1, n) s) : wpAny (model prog w) A (Builtin.Slice.sliceApplied (.ref sl) (pure (n : Int))) Q E s := by
  obtain ⟨os, hos, hcs, hds⟩ := id hs
  unfold Builtin.Slice.sliceApplied Builtin.Slice.sliceFields
  refine wpAny_bind (wpAny_bind (wpAny_field hos hds (x := vl) rfl (wpAny_bind (wpAny_field hos hds (x := vu) rfl (wpAny_bind (wpAny_field hos hds (x := vs) rfl (wpAny_pure ?_)))))))
  refine wpAny_bind (slicePart_ ps ?_)
  show wpAny _ _ (if ((-1 : Int) == 0) = true then _ else _) _ _ s
  rw [if_neg (by decide)]
  refine wpAny_bind (slicePart_ pl (wpAny_bind (slicePart_ pu (wpAny_bind (wpAny_pure ?_)))))
  show wpAny _ _ (match Builtin.Slice.sliceAdjust none none (-1) (n : Int) with | (lo, hi) => pure (lo, (-1 : Int), Builtin.Slice.slicePlaces lo hi (-1))) _ _ s
  rw [adjust_rev]
  show wpAny _ _ (pure ((n : Int) - 1, (-1 : Int), Builtin.Slice.slicePlaces ((n : Int) - 1) (-1) (-1))) _ _ s
  rw [places_rev]
  exact wpAny_pure h
theorem getItem_tuple_rev {t sl : Addr} {items : Array Value} {vl vu vs : Value} {Q : Value → Shared → Prop} (ht : IsTup s.heap t items) (hs : s.heap.IsSliceOf sl vl vu vs) (pl : IsPart vl none) (pu : IsPart vu none) (ps : IsPart vs (some (-1)))
    (h : Q (.ref s.heap.objs.size) { s with heap := s.heap.push { cls := .type "tuple", data := .seq items.toList.reverse.toArray } })
    (hsz : items.size ≤ sizeLine) : wpAny (model prog w) A (getItem (.ref t) (.ref sl)) Q E s := by
  have htake : sizeOk (.seq items.toList.reverse.toArray) := by
    show items.toList.reverse.toArray.size ≤ sizeLine
    simpa using hsz
  obtain ⟨os, hos, hcs, hds⟩ := id hs
  have hTs : s.TypeIs (.ref sl) "slice" := ⟨os, hos, hcs⟩
  unfold getItem
  try with_reducible refine wpAny_holding ?_
  first | refine wpAny_bind (wpAny_pure ?_) | skip
  refine wpAny_bind (wpAny_sequenceKey ht.typeIs (by decide) ?_)
  refine wpAny_bind (wpAny_callSpecial?_slot (name := Str.ofString "__getitem__") ht.typeIs PyProof.Rows.slot_tuple_getitem
    (wpAny_call_entry PyProof.Rows.slot_tuple_getitem ht.typeIs entry_tuple_getitem ?_ (args_tuple_getitem _ _)))
  show wpAny _ _ (Builtin.Tuple.tupleItemsOf (.ref t) >>= _) _ _ s
  refine wpAny_bind (tupleItemsOf_ ht ?_)
  refine wpAny_bind (wpAny_typeOf hTs ?_)
  rw [if_pos (by decide)]
  refine wpAny_bind (sliceApplied_rev hs pl pu ps ?_)
  have hno : ¬ (((((items.size : Int) - 1) == 0 && ((-1 : Int) == 1)) && items.size == items.size) = true) := by
    rw [show ((-1 : Int) == 1) = false from rfl]
    simp
  show wpAny _ _ (if ((((items.size : Int) - 1) == 0 && ((-1 : Int) == 1)) && items.size == items.size) = true then _ else _) _ _ s
  rw [if_neg hno, pick_rev]
  first
    | exact wpAny_bind (m := Builtin.Tuple.tupleExact _) (wpAny_newObj_type (wpAny_pure ⟨_, rfl, wpAny_pure h⟩) htake)
    | exact wpAny_bind (m := Builtin.Tuple.tupleExact _) (wpAny_newObj_type (wpAny_bind (wpAny_pure (wpAny_pure ⟨_, rfl, wpAny_pure h⟩))) htake)
    | exact wpAny_bind (wpAny_bind (m := Builtin.Tuple.tupleExact _) (wpAny_newObj_type (wpAny_pure (wpAny_pure ⟨_, rfl, wpAny_pure h⟩)) htake))
    | exact wpAny_bind (wpAny_bind (m := Builtin.Tuple.tupleExact _) (wpAny_newObj_type (wpAny_pure ⟨_, rfl, wpAny_pure h⟩) htake))
end
section
variable {X : Cx} {g : Gm} {W : WX} {K : PySem.W.Frag} {ma : EE}
def tRevT (K : PySem.W.Frag) (te : TE) : TE := fun σ H Q => te σ H fun x H1 => ∃ a xs, x = .ref a ∧ SqT K H1 a xs ∧ ∀ p, H1 p = none → Q (.ref p) (upd H1 p (.tup xs.reverse))
theorem pe_revT {e : Expr} {te : TE} {k : Nat} {p1 p2 p3 pos : Pos} (he : PE X e te) : PE X (.Subscript e (.Slice none none (some (.UnaryOp .USub (.Constant (.int 1) k p1) p2)) p3) pos) (tRevT X.K te) := by
  refine ⟨fun pins s σ H Q I h => ?_⟩
  refine Subscript_ (thn (he.run pins s σ H _ I h) fun v s1 ⟨x, H1, I1, r1, q1⟩ => ?_)
  obtain ⟨a, xs, ex, hx, q⟩ := q1
  subst ex
  cases r1
  have hst : PO X (some (.UnaryOp .USub (.Constant (.int 1) k p1) p2)) (tPart (tUn (rU fun i => .int (-i)) (tC (.int 1)))) := po_some (pe_un un_neg pe_int)
  refine wpAny_Slice (thn (po_none.run pins s1 σ H1 (fun o H2 => o = none ∧ H2 = H1) I1 ⟨rfl, rfl⟩) fun vl s2 ⟨l, H2, I2, pl, el, e2⟩ => ?_)
  subst el e2
  refine thn (po_none.run pins s2 σ H2 (fun o H3 => o = none ∧ H3 = H2) I2 ⟨rfl, rfl⟩) fun vu s3 ⟨u, H3, I3, pu, eu, e3⟩ => ?_
  subst eu e3
  refine thn (hst.run pins s3 σ H3 (fun o H4 => o = some (-1) ∧ H4 = H3) I3 ⟨1, rfl, -1, rfl, rfl, rfl⟩) fun vs s4 ⟨o, H4, I4, ps, eo, e4⟩ => ?_
  subst eo e4
  have I5 : Inv X pins σ H4 { s4 with heap := s4.heap.push { cls := .type "slice", data := .fields #[vl, vu, vs] } } := I4.kept (t' := s4.toks) fun b ob q => Heap.get?_push_of_some _ q
  obtain ⟨its, r, ht, hz⟩ := I5.tuple hx
  have hlen := r.length
  show wpAny (model X.prog X.w) X.A (subscriptTail e (.Slice none none (some (.UnaryOp .USub (.Constant (.int 1) k p1) p2)) p3) (.ref a) (.ref s4.heap.objs.size)) (EP X pins σ Q) X.xe { s4 with heap := s4.heap.push { cls := .type "slice", data := .fields #[vl, vu, vs] } }
  refine tail_any (ops := [.ref a, .ref s4.heap.objs.size]) ht.typeIs (PyProof.Rows.slot_tuple_getitem.lookup) ?_ (by with_unfolding_all rfl)
  refine getItem_tuple_rev ht (Heap.IsSliceOf.new _ vl vu vs) pl pu ps ?_ (by rw [List.size_toArray]; omega)
  refine ⟨.ref _, _, I5.laid (t' := s4.toks) (o := .tup xs.reverse) (fun b ob q => Heap.get?_push_of_some _ q) (Nat.le_refl _) ?_, rfl, q _ (I5.hok.fresh (Nat.le_refl _))⟩
  exact ⟨by rw [List.length_reverse]; exact hz, _, r.reverse, IsTup.new _ _⟩
theorem RVs.reverse {ρ : List Addr} {H : Hp} : ∀ {ds : List D} {vs : List V}, RVs K g ρ H ds vs → RVs K g ρ H ds.reverse vs.reverse
  | [], vs, r => by
    rw [rvs_nil] at r
    subst r
    exact rvs_nil.mpr rfl
  | d :: ds, vs, r => by
    rw [rvs_cons] at r
    obtain ⟨v, vs', rfl, r1, r2⟩ := r
    rw [List.reverse_cons, List.reverse_cons]
    exact r2.reverse.append (.one r1)
def revD (d : D) (M : Mem) : Rs D := match d with
  | .tup ds => .ok (.tup ds.reverse) M
  | _ => .no
theorem revD_noex {x : D} {M : Mem} {e : Exn} {M' : Mem} : revD x M ≠ .ex e M' := by
  unfold revD
  split <;> exact fun z => nomatch z
theorem de_rev {a : Expr} {k : Nat} {p1 p2 p3 pos : Pos} (ha : DE X g W a ma) : DE X g W (.Subscript a (.Slice none none (some (.UnaryOp .USub (.Constant (.int 1) k p1) p2)) p3) pos) (e1 revD ma) := by
  refine ⟨PE.imp (pe_revT ha.pe) fun σ H Q h => ?_⟩
  refine tE_mono (e1_read (fun _ _ _ _ => revD_noex) h) fun v H1 ⟨ρ, M, x, mr, r1, h1⟩ => ?_
  unfold revD at h1
  split at h1
  · rw [rv_tup] at r1
    obtain ⟨p, vs, e1, s1, q1⟩ := r1
    exact ⟨p, vs, e1, SqT.of s1, fun q hq => tup_ok mr hq q1.reverse h1⟩
  · exact h1.elim
end
end
end Dl

set_option Elab.async false
set_option linter.all false
set_option autoImplicit false
set_option maxRecDepth 100000
set_option maxHeartbeats 4000000
/-! The D-layer: a tuple some times. -/
namespace Dl
open PySem PySem.Spec PyProof.Rows L2
theorem tuple_mul_same (l : Addr) (items : Array Value) (n : Nat) (x : Int) (u : Tok) (c0 : (decide (x < -(2 ^ 63)) || decide (x ≥ 2 ^ 63)) = false) (c1 : (items.isEmpty || x == 1) = true) (dd : Option Addr) (sl : Array (Option Value)) :
    Meets (Builtin.«tuple.__mul__» ⟨[.ref l, .int x u], []⟩) (fun _ R s => s.heap.get? l = some { cls := .type "tuple", dict := dd, data := .seq items n, slots := sl } ∧ R (.ok (.ret (Value.ref l))) s) :=
  .of_wp fun prog w A R s h => by
    obtain ⟨hp, g, d, tk, os⟩ := s
    obtain ⟨hl, h⟩ := h
    have f1 := AutoSeq1.idx_int
    wp_walk using wpAny_loadPart' hl
    repeat (first
      | (refine wpAny_ite_false (decide_eq_false (by rw [c0]; exact Bool.false_ne_true)) ?_; wp_walk using wpAny_loadPart' hl)
      | (refine wpAny_ite_true (decide_eq_true (by rw [c1])) ?_; wp_walk using wpAny_loadPart' hl))
    exact ⟨_, rfl, h⟩
theorem tuple_mul_none (l : Addr) (items : Array Value) (n : Nat) (x : Int) (u : Tok) (c0 : (decide (x < -(2 ^ 63)) || decide (x ≥ 2 ^ 63)) = false) (c1 : (items.isEmpty || x == 1) = false) (c2 : (decide (x ≤ 0) || items.isEmpty) = true) (dd : Option Addr) (sl : Array (Option Value)) :
    Meets (Builtin.«tuple.__mul__» ⟨[.ref l, .int x u], []⟩) (fun _ R s => s.heap.get? l = some { cls := .type "tuple", dict := dd, data := .seq items n, slots := sl } ∧
      R (.ok (.ret (Value.ref s.heap.objs.size))) { s with heap := s.heap.push { cls := Value.type "tuple", data := Data.seq #[] }, toks := s.toks }) :=
  .of_wp fun prog w A R s h => by
    obtain ⟨hp, g, d, tk, os⟩ := s
    obtain ⟨hl, h⟩ := h
    have f1 := AutoSeq1.idx_int
    wp_walk using wpAny_loadPart' hl
    repeat (first
      | (refine wpAny_ite_false (decide_eq_false (by rw [c0]; exact Bool.false_ne_true)) ?_; wp_walk using wpAny_loadPart' hl)
      | (refine wpAny_ite_false (decide_eq_false (by rw [c1]; exact Bool.false_ne_true)) ?_; wp_walk using wpAny_loadPart' hl)
      | (refine wpAny_ite_true (decide_eq_true (by rw [c2])) ?_; wp_walk using wpAny_loadPart' hl))
    exact ⟨_, rfl, h⟩
section
variable {X : Cx} {g : Gm}
/-- what a tuple some times is -/
theorem op_repT1 : OpR X (binaryOp .Mult) (fun x y H Q => ∃ l k xs, x = .ref l ∧ y = .int k ∧ SqT X.K H l xs ∧ -(2 ^ 63) ≤ k ∧ k < 2 ^ 63 ∧
    ((xs = [] ∨ k = 1) ∧ Q (.ref l) H ∨ (xs ≠ [] ∧ k ≤ 0 ∧ ∀ p, H p = none → Q (.ref p) (upd H p (.tup []))))) := by
  intro pins s σ H x y v u Q I rx ry h
  obtain ⟨l, k, xs, rfl, rfl, hT, h1, h2, q⟩ := h
  cases rx
  obtain ⟨t, rfl⟩ := ry
  obtain ⟨its, r, ⟨⟨cls, dd, data, sl⟩, ho, hc, n, hd⟩, hs⟩ := I.tuple hT
  simp only at hc hd
  subst hc hd
  have hle : its.length = xs.length := r.length.symm
  have c0 : (decide (k < -(2 ^ 63)) || decide (k ≥ 2 ^ 63)) = false := by
    rw [decide_eq_false (by omega), decide_eq_false (by omega)] <;> rfl
  rcases q with ⟨z, q⟩ | ⟨hne, hk, q⟩
  · have c1 : (its.toArray.isEmpty || k == 1) = true := by
      rcases z with z | z
      · subst z
        have := List.eq_nil_of_length_eq_zero hle
        subst this
        rfl
      · subst z
        simp
    refine wpAny_binaryOp_repeat_ref (T := "tuple") (U := "int") (by decide) ⟨_, ho, rfl⟩ (fun s' => typeIs_int s' k t) noFill_tuple_mul F.fills_int_mul F.slot_int_rmul repeat_tuple F.slot_int_index.lookup
      (call_meets F.slot_int_rmul (typeIs_int s k t) F.entry_int_rmul (F.args_int_rmul_2 _ _) (int_rmul_tuple k t l its.toArray n dd sl)
        ⟨ho, rfl, ⟨_, ho, rfl⟩, call_meets F.slot_tuple_mul ⟨_, ho, rfl⟩ F.entry_tuple_mul (F.args_tuple_mul_2 _ _) (tuple_mul_same l its.toArray n k t c0 c1 dd sl) ⟨ho, ?_⟩⟩)
    exact ⟨.ref l, _, I, rfl, q⟩
  · have hi : its.toArray.isEmpty = false := by
      cases its with
      | nil => exact absurd (List.eq_nil_of_length_eq_zero hle.symm) hne
      | cons a b => rfl
    have c1 : (its.toArray.isEmpty || k == 1) = false := by
      rw [hi, Bool.false_or]
      exact beq_eq_false_iff_ne.mpr (by omega)
    have c2 : (decide (k ≤ 0) || its.toArray.isEmpty) = true := by
      rw [decide_eq_true hk]; rfl
    refine wpAny_binaryOp_repeat_ref (T := "tuple") (U := "int") (by decide) ⟨_, ho, rfl⟩ (fun s' => typeIs_int s' k t) noFill_tuple_mul F.fills_int_mul F.slot_int_rmul repeat_tuple F.slot_int_index.lookup
      (call_meets F.slot_int_rmul (typeIs_int s k t) F.entry_int_rmul (F.args_int_rmul_2 _ _) (int_rmul_tuple k t l its.toArray n dd sl)
        ⟨ho, rfl, ⟨_, ho, rfl⟩, call_meets F.slot_tuple_mul ⟨_, ho, rfl⟩ F.entry_tuple_mul (F.args_tuple_mul_2 _ _) (tuple_mul_none l its.toArray n k t c0 c1 c2 dd sl) ⟨ho, ?_⟩⟩)
    refine ⟨.ref s.heap.objs.size, _, I.laid (t' := s.toks) (o := .tup []) (fun b ob q => Heap.get?_push_of_some _ q) (Nat.le_refl _) ?_, rfl, q _ (I.hok.fresh (Nat.le_refl _))⟩
    exact ⟨by rw [sizeLine_eq]; simp, [], .nil, IsTup.new _ _⟩
/-- a tuple some times -/
noncomputable def mulTD : O2 := fun x y M => match x, y with
  | .tup ds, .int k => if cdec (-(2 ^ 63) ≤ k ∧ k < 2 ^ 63) then
      (if ds.isEmpty || decide (k = 1) then .ok (.tup ds) M else if decide (k ≤ 0) then .ok (.tup []) M else
        if decide (k ≤ 1000) && decide (ds.length ≤ 1000) then .ok (.tup (List.replicate k.toNat ds).flatten) M else .no) else .no
  | _, _ => .no
theorem mulTD_noex : NoEx mulTD := by
  intro x y M e M'
  unfold mulTD
  repeat' split
  all_goals exact fun z => nomatch z
theorem dop_mulT : DOp X g (binaryOp .Mult) mulTD := by
  rintro pins s σ H x' y' v u Q I rx ry ⟨ρ, M, x, y, mr, r1, r2, h⟩
  unfold mulTD at h
  split at h
  · rename_i ds k
    have r1' := r1
    rw [rv_tup] at r1
    obtain ⟨p, vs, e1, s1, q1⟩ := r1
    rw [rv_int] at r2
    have hvl := q1.length
    by_cases hz : cdec (-(2 ^ 63) ≤ k ∧ k < 2 ^ 63) = true
    · rw [if_pos hz] at h
      have hz' := cdec_iff.mp hz
      by_cases h1 : (ds.isEmpty || decide (k = 1)) = true
      · rw [if_pos h1] at h
        refine op_repT1 pins s σ H x' y' v u Q I rx ry ⟨p, k, vs, e1, r2, SqT.of s1, hz'.1, hz'.2, .inl ⟨?_, ?_⟩⟩
        · rw [Bool.or_eq_true, List.isEmpty_iff, decide_eq_true_eq] at h1
          refine h1.imp (fun e => ?_) id
          subst e
          exact List.eq_nil_of_length_eq_zero hvl
        · rw [← e1]; exact h.now mr r1'
      · rw [if_neg h1] at h
        rw [Bool.or_eq_true, List.isEmpty_iff, decide_eq_true_eq] at h1
        have hne : vs ≠ [] := fun e => h1 (.inl (by
          subst e
          exact List.eq_nil_of_length_eq_zero hvl.symm))
        by_cases h2 : decide (k ≤ 0) = true
        · rw [if_pos h2] at h
          exact op_repT1 pins s σ H x' y' v u Q I rx ry ⟨p, k, vs, e1, r2, SqT.of s1, hz'.1, hz'.2, .inr ⟨hne, by simpa using h2, fun q hq => tup_ok mr hq (by rw [rvs_nil]) h⟩⟩
        · rw [if_neg h2] at h
          rw [decide_eq_true_eq] at h2
          by_cases h3 : (decide (k ≤ 1000) && decide (ds.length ≤ 1000)) = true
          · rw [if_pos h3] at h
            rw [Bool.and_eq_true, decide_eq_true_eq, decide_eq_true_eq] at h3
            exact op_repT pins s σ H x' y' v u Q I rx ry ⟨p, k, vs, e1, r2, SqT.of s1, hne, by have := h1; omega, h3.1, by omega, fun q hq => tup_ok mr hq (q1.rep _) h⟩
          · rw [if_neg h3] at h; exact h.elim
    · rw [if_neg hz] at h; exact h.elim
  · exact h.elim
@[simp] theorem ev_mulT (M : Mem) (d : D) (n : Nat) (h : 1 ≤ n) (h2 : n ≤ 1000) : mulTD (.tup [d]) (.int n) M = .ok (.tup (List.replicate n d)) M := by
  have e : (List.replicate n [d]).flatten = List.replicate n d := by simp
  unfold mulTD
  have c : cdec (-2 ^ 63 ≤ (n : Int) ∧ (n : Int) < 2 ^ 63) = true := by rw [cdec_iff]; omega
  simp only [c, if_true, List.isEmpty_cons, Bool.false_or]
  by_cases h1 : (n : Int) = 1
  · have : n = 1 := by omega
    subst this
    rfl
  · have h3 : ¬ (n : Int) ≤ 0 := by omega
    have h4 : (n : Int) ≤ 1000 := by omega
    simp only [h1, h3, h4, decide_false, decide_true, Bool.false_eq_true, if_false, List.length_cons, List.length_nil, Int.toNat_natCast, e]
    rfl
end
end Dl

set_option Elab.async false
set_option linter.all false
set_option autoImplicit false
set_option maxRecDepth 100000
set_option maxHeartbeats 4000000
/-! The D-layer: lambdas made, lambdas without captured names called. -/
namespace Dl
open PySem PySem.Spec PyProof.Rows L2
theorem lamO_at {P : Program} {w : World} {H : Hp} {h : Heap} {f c : Addr} {L : LW} {cl : List (Str × Addr)} (hok : HOk P w H h) (e : H f = some (LamO f L cl c)) : ∃ (pm ctv : Value), h.get? f = some (PySem.W.kla_obj "<lambda>" L.qual L.params L.body L.scope cl pm c ctv) := by
  obtain ⟨z, _, _⟩ := hok f _ e
  exact z
theorem lamO_ne {f c : Addr} {L : LW} {cl : List (Str × Addr)} (ps : Array Value) : LamO f L cl c ≠ .tbl ps := fun z => by
  unfold LamO at z
  cases z
section
variable {X : Cx} {pins : List (Addr × Obj)} {σ : L2.St} {H : Hp} {s : Shared}
/-- the new function object is known from now on -/
theorem inv_lam {L : LW} {cl : List (Str × Addr)} {c : Addr} {pm ctv : Value} {tk : Nat} (I : Inv X pins σ H s) :
    Inv X pins σ (upd H s.heap.objs.size (LamO s.heap.objs.size L cl c)) { s with heap := s.heap.push (PySem.W.kla_obj "<lambda>" L.qual L.params L.body L.scope cl pm c ctv), toks := tk } := by
  have there : (s.heap.push (PySem.W.kla_obj "<lambda>" L.qual L.params L.body L.scope cl pm c ctv)).get? s.heap.objs.size = some (PySem.W.kla_obj "<lambda>" L.qual L.params L.body L.scope cl pm c ctv) := Heap.get?_push_size _ rfl
  exact I.laid (a := s.heap.objs.size) (fun b u e => Heap.get?_push_of_some _ e) (Nat.le_refl _)
    ⟨⟨pm, ctv, there⟩, ⟨_, there⟩, fun h1 h2 ⟨p, t, z⟩ st => ⟨p, t, st _ z⟩⟩
theorem upd_non {H : Hp} {a b : Addr} {o : HO} (e : upd H a o b = none) : H b = none := by
  unfold upd at e
  split at e
  · cases e
  · exact e
/-- a lambda is made; nothing that was tracked is gone -/
theorem lam_mk {T : List (Addr × Str)} {c P : Addr} {params : Arguments} {body : Expr} {scope : Scope} {pos : Pos} {E : Value → Shared → Prop} {Q : Value → Shared → Prop} (I : Inv X pins σ H s) (TB : LamX.TabB X.base X.mg c P) (hcode : X.env.code = .ref c)
    (hm : (P, X.env.qual ++ "<lambda>") ∈ T) (hu : ∀ p ∈ T, p.1 = P → p.2 = X.env.qual ++ "<lambda>") (hT : LamX.Tabs T H) (hdef : defaultsOf params X.env = ([], [])) (hfree : ∀ y ∈ scope.names, y.2 = .free → ∃ c, X.env.cells.lookup y.1 = some c)
    (fin : ∀ (f d : Addr) (H1 : Hp) (s1 : Shared), Inv X pins σ H1 s1 → LamX.ExtN H H1 → (∀ b, H1 b = none → H b = none) → LamX.Tabs T H1 → H f = none →
      H1 f = some (LamO f ⟨X.env.qual ++ "<lambda>", params, body, scope⟩ (cloFrom X.env.cells scope.names []) d) → H1 d = some (LamX.CodeO d (X.env.qual ++ "<lambda>")) → Q (.ref f) s1) :
    wpAny (model X.prog X.w) X.A (eval (.Lambda params body scope pos) X.env) Q E s := by
  obtain ⟨tb, atP, tri, known⟩ := hT _ hm
  have blt : s.heap.BuiltinsAt X.mg P := TB.bm.keeps I.bk
  have objP : s.heap.get? P = some { cls := .none, data := .fields tb } := I.hok P _ atP
  refine PySem.W.kla_eval hdef ?_
  cases found : codeAmong pos tb.toList with
  | some v =>
    obtain ⟨d, rfl, hd⟩ := known pos v found
    refine PySem.W.kla_makeFunctionHit (mg := X.mg) (c := c) (P := P) (ps := tb) (closure_ok hfree) I.ok.glob (I.mod.glob.keeps I.bk) hcode (TB.code.keeps I.bk) objP tri found blt fun ct h1 tk more big => ?_
    have J : Inv X pins σ H { s with heap := h1, toks := tk } := I.kept more
    have nf : H h1.objs.size = none := J.hok.fresh (Nat.le_refl _)
    refine fin _ d _ _ (inv_lam (L := ⟨X.env.qual ++ "<lambda>", params, body, scope⟩) (c := d) J) (fun b o e _ => (upd_ne (ne_of_none e nf)).trans e) (fun b e => upd_non e) (hT.ext fun b o e => (upd_ne (ne_of_none e nf)).trans e) nf upd_same ((upd_ne (ne_of_none hd nf)).trans hd)
  | none =>
    refine PySem.W.kla_makeFunction (mg := X.mg) (c := c) (P := P) (ps := tb) (closure_ok hfree) I.ok.glob (I.mod.glob.keeps I.bk) hcode (TB.code.keeps I.bk) objP tri found TB.gP blt fun d ct h1 tk more big less rec tab2 => ?_
    obtain ⟨d2, od, us, t, ed, e1, e2, e3⟩ := rec
    cases ed
    have nd : H d = none := I.hok.fresh big
    have J := LamX.inv_table (t' := tk) (more := #[rawInt pos.line, rawInt pos.col, .ref d]) (h' := h1) I atP (fun b o hb e => more b o hb e) tab2 big ⟨od, us, t, e1, e2, e3⟩
    have ex : LamX.ExtN H (upd (upd H P (.tbl (tb ++ #[rawInt pos.line, rawInt pos.col, .ref d]))) d (LamX.CodeO d (X.env.qual ++ "<lambda>"))) := fun b o e n => by
      have b1 : b ≠ P := fun z => n tb (by rw [z, atP] at e; exact (Option.some.inj e).symm)
      rw [upd_ne (ne_of_none e nd), upd_ne b1]
      exact e
    have lst : (tb ++ #[rawInt pos.line, rawInt pos.col, .ref d]).toList = tb.toList ++ [rawInt pos.line, rawInt pos.col, .ref d] := by simp
    have T1 : LamX.Tabs T (upd (upd H P (.tbl (tb ++ #[rawInt pos.line, rawInt pos.col, .ref d]))) d (LamX.CodeO d (X.env.qual ++ "<lambda>"))) := fun q hq => by
      by_cases same : q.1 = P
      · rw [hu q hq same, same]
        refine ⟨_, (upd_ne (ne_of_none atP nd)).trans upd_same, by rw [lst]; exact PySem.TriplesOk_snoc _ _ _ _ tri, fun p2 v hv => ?_⟩
        rw [lst] at hv
        rcases LamX.among_app _ tri hv with z | z
        · obtain ⟨d0, z1, z2⟩ := known p2 v z
          exact ⟨d0, z1, ex _ _ z2 LamX.codeO_ne⟩
        · exact ⟨d, z, upd_same⟩
      · obtain ⟨tb2, a1, a2, a3⟩ := hT q hq
        refine ⟨tb2, (upd_ne (ne_of_none a1 nd)).trans ((upd_ne same).trans a1), a2, fun p2 v hv => ?_⟩
        obtain ⟨d0, z1, z2⟩ := a3 p2 v hv
        exact ⟨d0, z1, ex _ _ z2 LamX.codeO_ne⟩
    have nf := J.hok.fresh (Nat.le_refl _)
    have old : H h1.objs.size = none := I.hok.fresh (Nat.le_trans big (Nat.le_of_lt less))
    refine fin _ d _ _ (inv_lam (L := ⟨X.env.qual ++ "<lambda>", params, body, scope⟩) (c := d) (tk := tk) J) (fun b o e n => (upd_ne (ne_of_none (ex b o e n) nf)).trans (ex b o e n)) (fun b e => upd_non (upd_non (upd_non e))) (T1.ext fun b o e => (upd_ne (ne_of_none e nf)).trans e) old upd_same ?_
    exact (upd_ne (Nat.ne_of_lt less)).trans upd_same
end
section
variable {K : PySem.W.Frag} {g : Gm} {ρ : List Addr} {M : Mem} {H H1 : Hp}
/-- the memory lies on where a lambda was made -/
theorem keep_extN (e : LamX.ExtN H H1) : Keep H H1 := ⟨fun _ _ h => e _ _ h (fun _ z => nomatch z), fun _ _ _ h => e _ _ h (fun _ z => nomatch z), fun _ _ h => e _ _ h (fun _ z => nomatch z)⟩
theorem mr_extN (m : MR K g ρ M H) (e : LamX.ExtN H H1) (t : LamX.Tabs g.T H1) : MR K g ρ M H1 where
  len := m.len
  obj := fun n a o h1 h2 => (m.obj n a o h1 h2).mono (keep_extN e) .refl fun l => by
    obtain ⟨u, hu, _, _, _, _, _, nt⟩ := m.live_some h1 ⟨o, h2, l⟩
    rw [hu]
    exact e _ _ hu nt
  inj := m.inj
  tab := t
theorem ext_extN (e : LamX.ExtN H H1) (n : ∀ b, H1 b = none → H b = none) : Ext ρ M H ρ M H1 where
  pre := .refl
  kp := keep_extN e
  frame := fun p o h _ nt => e p o h nt
  there := fun p h z => h (n p z)
  new := fun k a h e _ => by rw [List.getElem?_eq_none_iff.mpr h] at e; cases e
  old := fun _ _ h => h
  len := Nat.le_refl _
end
/-! ### a lambda without captured names as a value -/
section
variable {X : Cx} {g : Gm} {W : WX}
/-- lambda ..: .., the k-th one -/
def eLam (k : Nat) : EE := fun _ M => .ok (.lam k) M
theorem clo_nil {cells : List (Str × Addr)} : ∀ {names : List (Str × NameKind)} {acc : List (Str × Addr)}, (∀ y ∈ names, y.2 ≠ .free) → cloFrom cells names acc = acc
  | [], _, _ => rfl
  | (y, k) :: r, acc, h => by
    have hk : k ≠ .free := h (y, k) List.mem_cons_self
    have ih := clo_nil (cells := cells) (names := r) (acc := acc) fun z hz => h z (List.mem_cons_of_mem _ hz)
    cases k <;> first | exact absurd rfl hk | exact ih
theorem de_lamV (k : Nat) {c P : Addr} {params : Arguments} {body : Expr} {scope : Scope} {pos : Pos} (TB : LamX.TabB X.base X.mg c P) (hcode : X.env.code = .ref c)
    (hm : (P, X.env.qual ++ "<lambda>") ∈ g.T) (hu : ∀ p ∈ g.T, p.1 = P → p.2 = X.env.qual ++ "<lambda>") (hk : g.la k = some ⟨X.env.qual ++ "<lambda>", params, body, scope⟩)
    (hdef : defaultsOf params X.env = ([], []) := by rfl) (hno : ∀ y ∈ scope.names, y.2 ≠ .free := by decide +kernel) : DE X g W (.Lambda params body scope pos) (eLam k) := by
  refine ⟨⟨fun pins s σ H Q I h => ?_⟩⟩
  obtain ⟨ρ, δ, M, mr, sr, h⟩ := h
  refine lam_mk I TB hcode hm hu mr.tab hdef (fun y hy e => absurd e (hno y hy)) fun f d H1 s1 J e n t _ h1 h2 => ?_
  rw [clo_nil hno] at h1
  refine ⟨.ref f, H1, J, rfl, ?_⟩
  exact h ρ _ _ (ext_extN e n) (mr_extN mr e t) (by rw [rv_lam]; exact ⟨f, _, d, hk, rfl, h1, h2⟩)
end
end Dl

set_option Elab.async false
set_option linter.all false
set_option autoImplicit false
set_option maxRecDepth 100000
set_option maxHeartbeats 4000000
/-! The D-layer: lambdas without captured names called; names that hold defs or such lambdas. -/
namespace Dl
open PySem PySem.Spec PyProof.Rows L2
/-- a lambda as HandS's words of a made function -/
def nfL (L : LW) (cl : List (Str × Addr)) (c : Addr) : NdefX.NF := ⟨"<lambda>", L.qual, L.params, [], L.scope, cl, c⟩
section
variable (P : Program) (w : World) (K : PySem.W.Frag) (mg : Str → Option Value) (base : Heap)
/-- what a lambda promises -/
structure LOk (k : Nat) (L : LW) (n : Nat) (sp : Sp) : Prop where
  len : ∀ vs H Q E, sp vs H Q E → vs.length = n
  run : ∀ (A : Around) (outer : List Env) (s : Shared) (H : Hp) (f c : Addr) (us : List Value) (vs : List V) (Q : VK) (E : XK), A.guards = some [] → Room k A → Env0 P w K mg base A outer s H → H f = some (LamO f L [] c) → H c = some (LamX.CodeO c L.qual) → Vals vs us → sp vs H Q E →
    codeAny (model P w) A (.call (.ref f) ⟨us, []⟩) (CR (L2.CX P w) outer P w H s Q E) s
end
section
variable {P : Program} {w : World} {K : PySem.W.Frag} {mg : Str → Option Value} {base : Heap} {g : Gm}
theorem LOk.mono {j k n : Nat} {L : LW} {sp : Sp} (o : LOk P w K mg base j L n sp) (h : j ≤ k) : LOk P w K mg base k L n sp :=
  ⟨o.len, fun A outer s H f c us vs Q E hg hr => o.run A outer s H f c us vs Q E hg (hr.mono h)⟩
/-- the function that such a lambda is -/
def lamF (n : Nat) (m : EE) : FF := fun ds M => m (startD n ds) M
theorem startF_nil (N : List Str) (vs : List V) : NdefX.startF N vs [] = L2.start N vs := by
  unfold NdefX.startF L2.start
  simp
/-- a lambda by its body -/
theorem lok_of {N ps : List Str} {k : Nat} {L : LW} {m : EE} (S : NdefX.NScope N ps [] L.scope) (hb : ∀ (pm cv ctv : Value) (us : List Value), us.length = ps.length → bindArgs (PySem.W.kla_fn "<lambda>" L.qual L.params L.body L.scope [] pm cv ctv) ⟨us, []⟩ = pure (ps.zip us))
    (hbody : ∀ (A : Around) (outer : List Env) (s : Shared) (H : Hp) (E : XK) (f c : Addr), A.guards = some [] → Room k (A.deeper (NdefX.envF (nfL L [] c) f s.heap.objs.size)) →
      DE (NdefX.ncx (L2.CX P w) P w K mg base N (nfL L [] c) f A outer s H E) g (fun cls d _ H => E cls d H) L.body m) :
    LOk P w K mg base (k + 1) L ps.length (spD K g ps.length (lamF N.length m)) := by
  refine ⟨fun vs H Q E ⟨ρ, M, ds, _, r, l, _⟩ => by rw [r.length, l], fun A outer s H f c us vs Q E hgd hr e0 hf hc rv ⟨ρ, M, ds, mr, r, l, h⟩ => ?_⟩
  have hl : vs.length = ps.length := by rw [r.length, l]
  obtain ⟨pm, ctv, ho⟩ := lamO_at e0.hok hf
  have lim : s.heap.NoLimit := e0.mod.nolimit.keeps fun b o e => (e0.bs b o e).1
  refine PySem.W.kla_callFunE hr.depth ho rfl S.co S.gen rfl (NdefX.codeO_at e0.hok hc) ?_
  rw [hb pm _ ctv us (by rw [← rv.length, hl])]
  refine wpAny_pure (wpAny_newFunctionEnv S.nocell (fun ⟨n, _⟩ hy => S.par n (List.of_mem_zip hy).1) (fun h₁ hns hsb => ⟨lim.fresh _ hsb, ?_⟩) S.kind)
  show codeAny _ _ (.expr L.body (NdefX.envF (nfL L [] c) f s.heap.objs.size)) _ _
  have kp : ∀ b o, s.heap.get? b = some o → h₁.get? b = some o := fun b o e => hsb.extBut b o (Nat.ne_of_lt (Heap.lt_size e)) (Heap.get?_push_of_some _ e)
  have C0 : NdefX.CellsAt (nfL L [] c).cl [] [] s.heap H := ⟨rfl, fun y c' e => (by cases e), fun x y c' e => (by cases e), fun i y e => (by cases e)⟩
  have I : Inv (NdefX.ncx (L2.CX P w) P w K mg base N (nfL L [] c) f A outer s H E) [] (NdefX.startF N vs []) H { s with heap := h₁, toks := s.toks + (ps.zip us).length } := NdefX.inv_startN S hr.hd e0 hl rv C0 hns kp
  rw [startF_nil] at I
  refine PySem.W.kla_codeExpr (wpAny_mono ((hbody A outer s H E f c hgd (hr.deeper _)).pe.run [] _ (L2.start N vs) H Q I ⟨ρ, startD N.length ds, M, mr, sr_start r, ?_⟩) (fun v s' hq => ?_) fun e s' hq => hq)
  · have h2 : rOk K g (RV K g) (fun c d _ H => E c d H) ρ M [] H (m (startD N.length ds) M) Q := h
    cases e : m (startD N.length ds) M with
    | ok d M' => rw [e] at h2; exact h2
    | ex y M' => rw [e] at h2; exact h2
    | no => rw [e] at h2; exact h2.elim
  · obtain ⟨v', H', J, q1, q2⟩ := hq
    exact ⟨v', H', J.os, J.bare, J.base, J.hok, q1, q2⟩
end
/-! ### calls of names that hold defs or lambdas -/
/-- which lambdas a local may hold -/
def TabL (X : Cx) (g : Gm) (j : Nat) (T : Nat → Option (Nat × FF)) : Prop := ∀ k n F, T k = some (n, F) → ∀ L, g.la k = some L → LOk X.prog X.w X.K X.mg X.base j L n (spD X.K g n F)
/-- f(..), f a local that holds a def or a lambda -/
def eCallX (i : Nat) (T TL : Nat → Option (Nat × FF)) (as : AA) : EE := fun δ M => match δ[i]? with
  | some (some (.fn k)) => match T k with
    | some (n, F) => eCall n F as δ M
    | none => .no
  | some (some (.lam k)) => match TL k with
    | some (n, F) => eCall n F as δ M
    | none => .no
  | _ => .no
section
variable {X : Cx} {g : Gm} {W : WX} {e a : Expr} {es : List Expr} {as : AA} {x : Str} {p pos : Pos}
theorem run_lam {k n : Nat} {L : LW} {sp : Sp} {E : L2.St → XK} {pins : List (Addr × Obj)} {σ : L2.St} {H : Hp} {s : Shared} {Q : VK} {us : List Value} {vs : List V} {f c : Addr} (F : LOk X.prog X.w X.K X.mg X.base k L n sp) (hgd : X.A.guards = some []) (hr : Room k X.A) (hx : PassesAt (L2.CX X.prog X.w) X σ (E σ))
    (I : Inv X pins σ H s) (hf : H f = some (LamO f L [] c)) (hc : H c = some (LamX.CodeO c L.qual)) (r : Vals vs us) (h : sp vs H Q (E σ)) : wpAny (model X.prog X.w) X.A (call (.ref f) us) (EP X pins σ Q) X.xe s := by
  refine wpAny_call (codeAny_mono (F.run X.A X.stack s H f c us vs Q (E σ) hgd hr I.env0 hf hc r h) fun z s' hq => ?_)
  cases z with
  | error e => exact hx pins H s e s' I hq
  | ok fl =>
    cases fl with
    | ret u => exact I.after hq
    | next => exact hq.elim
    | brk => exact hq.elim
    | cont => exact hq.elim
theorem de_callX (i : Nat) {j : Nat} {T TL : Nat → Option (Nat × FF)} (t : Tab X g j T) (tl : TabL X g j TL) (hgd : X.A.guards = some []) (hr : Room j X.A) (tk : Takes X W) (ha : DA X g W (e :: es) as) (hN : X.N[i]? = some x := by rfl) (hv : Vis X.env.scope x := by first | exact Or.inl rfl | exact Or.inr (Or.inl rfl) | exact Or.inr (Or.inr rfl))
    (hdb : (x == ("__debug__" : Str)) = false := by decide) (hcd : (x == ("__classdict__" : Str)) = false := by decide)
    (he : starEach (e :: es) X.env = (false, eval e X.env) :: starEach es X.env := by rfl) (hpl : (backTo pos (starEach es X.env)).any (·.1) = false := by rfl) :
    DE X g W (.Call (.Name x p) (e :: es) [] pos) (eCallX i T TL as) := by
  refine ⟨⟨fun pins s σ H Q I h => ?_⟩⟩
  have h0 := h
  obtain ⟨ρ, δ, M, mr, sr, h⟩ := h
  unfold eCallX at h
  split at h
  · rename_i k ek
    have hfn : tE X.K g W (eCallV i T as) σ H Q := ⟨ρ, δ, M, mr, sr, by
      unfold eCallV
      rw [ek]
      exact h⟩
    exact (de_callV (p := p) (pos := pos) i t hgd hr tk ha hN hv hdb hcd he hpl).pe.run pins s σ H Q I hfn
  · rename_i k ek
    split at h
    · rename_i n F eT
      obtain ⟨v, e1, rv⟩ := sr.2 i _ ek
      rw [rv_lam] at rv
      obtain ⟨f, L, c, hL, rfl, hf, hc⟩ := rv
      have hFn := t
      have LO := tl k n F eT L hL
      have h' : tE X.K g W (eCall n F as) σ H Q := ⟨ρ, δ, M, mr, sr, h⟩
      refine wpAny_Call_Name_kw (thn ((pe_var (pos := p) hN hv hdb hcd).run pins s σ H (fun v H1 => v = .ref f ∧ H1 = H) I ⟨.ref f, e1, rfl, rfl⟩) fun u s1 ⟨v, H1, I1, r1, q1⟩ => ?_)
      obtain ⟨rfl, rfl⟩ := q1
      cases r1
      have at_ : ∀ {H2 : Hp} {s2 : Shared}, Inv X pins σ H2 s2 → H2 f = some (LamO f L [] c) → PySem.W.FnAt f s2.heap := fun {H2 s2} J z => by
        obtain ⟨pm, ctv, ho⟩ := lamO_at J.hok z
        exact ⟨_, _, _, _, ho⟩
      have rd := call_read h'
      refine PySem.W.callWith_F (first := []) (at_ I1 hf) (thn (ha.pa.run pos pins s1 σ _ (fun vs H2 => H2 f = some (LamO f L [] c) ∧ H2 c = some (LamX.CodeO c L.qual) ∧ spD X.K g n F vs H2 Q (WE W σ)) I1 ?_) fun us s2 ⟨vs, H2, I2, r, z1, z2, q⟩ => ⟨at_ I2 z1, ?_⟩) he hpl
      · obtain ⟨ρ2, δ2, M2, mr2, sr2, rd⟩ := rd
        refine ⟨ρ2, δ2, M2, mr2, sr2, ?_⟩
        cases ea : as δ2 M2 with
        | ok ds M3 =>
          rw [ea] at rd
          exact fun ρ' v H' x m r => ⟨x.kp.ext _ _ hf, x.kp.ext _ _ hc, rd ρ' v H' x m r⟩
        | ex y M3 => rw [ea] at rd; exact rd
        | no => rw [ea] at rd; exact rd.elim
      · show wpAny _ _ (call (.ref f) us) _ _ _
        exact run_lam (E := WE W) LO hgd hr (passAt tk σ) I2 z1 z2 r q
    · exact h.elim
  · exact h.elim
end
end Dl

set_option Elab.async false
set_option linter.all false
set_option autoImplicit false
set_option maxRecDepth 100000
set_option maxHeartbeats 4000000
/-! The D-layer: own exceptions with fields, raised. -/
namespace Dl
open PySem PySem.Spec PyProof.Rows L2
/-- an __init__ that stores its arguments: self.f1 = .., self.f2 = .. -/
def spInit (K : PySem.W.Frag) (fs : List Str) : Sp := fun vs H Q _ => ∃ (a C : Addr) (ys : List V), vs = .ref a :: ys ∧ ys.length = fs.length ∧ OexC K C ∧ (∀ f ∈ fs, PySem.W.findIn K (.ref C) f = some none) ∧ H a = some (exo a C none) ∧
  ∀ (dx : Addr) (H' : Hp), H dx = none → dx ≠ a → H' a = some (exo a C (some dx)) → H' dx = some (exd dx (fs.zip ys).reverse) → (∀ b, b ≠ a → b ≠ dx → H' b = H b) → Q .non H'
theorem upd_two {H : Hp} {a d : Addr} {o u : HO} (h : d ≠ a) : upd (upd H d o) a u d = some o := by rw [upd_ne h, upd_same]
section
variable {P : Program} {w : World} {K : PySem.W.Frag} {mg : Str → Option Value} {base : Heap}
/-- one field -/
theorem init_one {qual f : Str} {p1 p2 p3 p4 : Pos} {st : Stmt} {fI : Addr} {fd : FuncData} (F : Fun K "__init__" qual st fI fd) (S : FnScope ["self", f] ["self", f] (defScope st))
    (hb : defBody st = [.Assign [.Attribute (.Name "self" p1) f p2] (.Name f p3) p4])
    (hs : ∀ (cdv : Value) (n : Nat), swapsWith (.Name f p3) (some (.Attribute (.Name "self" p1) f p2)) p4.line (envOfC qual (defScope st) n fI cdv) = pure false)
    (hfd : (f == ("__debug__" : Str)) = false := by decide) (hfc : (f == ("__classdict__" : Str)) = false := by decide) :
    FnOk P w K mg base (L2.CX P w) 1 fI fd ["self", f] (spInit K [f]) := by
  refine F.okX S (fun vs H Q E ⟨a, C, ys, e, l, _⟩ => by rw [e, List.length_cons, l]; rfl) (fun cdv A outer s H vs Q E hr ⟨a, C, ys, ev, hl, T, hno, ha, h⟩ => ?_)
  rw [hb]
  obtain ⟨y, rfl⟩ : ∃ y, ys = [y] := by
    cases ys with
    | nil => cases hl
    | cons y r => cases r with
      | nil => exact ⟨y, rfl⟩
      | cons _ _ => cases hl
  subst ev
  have v0 : Vis (defScope st) "self" := (S.par "self" List.mem_cons_self).imp id Or.inl
  have v1 : Vis (defScope st) f := (S.par f (List.mem_cons_of_mem _ List.mem_cons_self)).imp id Or.inl
  refine ⟨_, pss_one (ps_ost (pe_var (i := 0) rfl v0) (pe_var (i := 1) rfl v1 hfd hfc) (hs cdv _)), ?_⟩
  refine ⟨y, rfl, .ref a, rfl, a, C, rfl, T, hno f List.mem_cons_self, .inl ⟨ha, fun dx n ne => ?_⟩⟩
  refine h dx _ n ne upd_same (upd_two ne) fun b h1 h2 => ?_
  rw [upd_ne h1, upd_ne h2]
/-- two fields -/
theorem init_two {qual f g : Str} {p1 p2 p3 p4 q1 q2 q3 q4 : Pos} {st : Stmt} {fI : Addr} {fd : FuncData} (F : Fun K "__init__" qual st fI fd) (S : FnScope ["self", f, g] ["self", f, g] (defScope st))
    (hb : defBody st = [.Assign [.Attribute (.Name "self" p1) f p2] (.Name f p3) p4, .Assign [.Attribute (.Name "self" q1) g q2] (.Name g q3) q4])
    (hs : ∀ (cdv : Value) (n : Nat), swapsWith (.Name f p3) (some (.Attribute (.Name "self" p1) f p2)) p4.line (envOfC qual (defScope st) n fI cdv) = pure false)
    (hs2 : ∀ (cdv : Value) (n : Nat), swapsWith (.Name g q3) (some (.Attribute (.Name "self" q1) g q2)) q4.line (envOfC qual (defScope st) n fI cdv) = pure false)
    (hfd : (f == ("__debug__" : Str)) = false := by decide) (hfc : (f == ("__classdict__" : Str)) = false := by decide) (hgd : (g == ("__debug__" : Str)) = false := by decide) (hgc : (g == ("__classdict__" : Str)) = false := by decide) :
    FnOk P w K mg base (L2.CX P w) 1 fI fd ["self", f, g] (spInit K [f, g]) := by
  refine F.okX S (fun vs H Q E ⟨a, C, ys, e, l, _⟩ => by rw [e, List.length_cons, l]; rfl) (fun cdv A outer s H vs Q E hr ⟨a, C, ys, ev, hl, T, hno, ha, h⟩ => ?_)
  rw [hb]
  obtain ⟨y, z, rfl⟩ : ∃ y z, ys = [y, z] := by
    cases ys with
    | nil => cases hl
    | cons y r => cases r with
      | nil => cases hl
      | cons z r => cases r with
        | nil => exact ⟨y, z, rfl⟩
        | cons _ _ => cases hl
  subst ev
  have v0 : Vis (defScope st) "self" := (S.par "self" List.mem_cons_self).imp id Or.inl
  have v1 : Vis (defScope st) f := (S.par f (List.mem_cons_of_mem _ List.mem_cons_self)).imp id Or.inl
  have v2 : Vis (defScope st) g := (S.par g (List.mem_cons_of_mem _ (List.mem_cons_of_mem _ List.mem_cons_self))).imp id Or.inl
  refine ⟨_, pss_cons (ps_ost (pe_var (i := 0) rfl v0) (pe_var (i := 1) rfl v1 hfd hfc) (hs cdv _)) (pss_one (ps_ost (pe_var (i := 0) rfl v0) (pe_var (i := 2) rfl v2 hgd hgc) (hs2 cdv _))), ?_⟩
  refine ⟨y, rfl, .ref a, rfl, a, C, rfl, T, hno f List.mem_cons_self, .inl ⟨ha, fun dx n ne => ?_⟩⟩
  refine ⟨z, rfl, .ref a, rfl, a, C, rfl, T, hno g (List.mem_cons_of_mem _ List.mem_cons_self), .inr ⟨dx, _, upd_same, upd_two ne, by simp, ?_⟩⟩
  refine h dx _ n ne ?_ upd_same fun b h1 h2 => ?_
  · rw [upd_ne (Ne.symm ne), upd_same]
  · rw [upd_ne h2, upd_ne h1, upd_ne h2]
end
/-- what is known of the exception class x of number c with the fields fs -/
structure Xcl (P : Program) (w : World) (K : PySem.W.Frag) (mg : Str → Option Value) (base : Heap) (g : Gm) (c : Nat) (x : Str) (fs : List Str) : Prop where
  ex : ∃ (C fI : Addr) (fd : FuncData), g.ca c = some C ∧ mg x = some (.ref C) ∧ OexC K C ∧ XfC K C ∧ (∀ f ∈ fs, PySem.W.findIn K (.ref C) f = some none) ∧ PySem.W.findIn K (.ref C) "__init__" = some (some (.ref fI)) ∧
    PySem.W.typeIn K (.ref fI) = some (.type "function") ∧ FnOk P w K mg base (L2.CX P w) 1 fI fd ("self" :: fs) (spInit K fs) ∧ Binds K fd ("self" :: fs) []
/-- raise X(..) -/
def sRaise (c : Nat) (fs : List Str) (as : AA) : SS := fun δ M => (as δ M).stm δ fun ds M1 => if ds.length = fs.length then .ex ⟨c, (fs.zip ds).reverse⟩ δ M1 else .no
section
variable {K : PySem.W.Frag} {g : Gm} {ρ : List Addr} {H : Hp}
theorem RVs.rev : ∀ {ds : List D} {vs : List V}, RVs K g ρ H ds vs → RVs K g ρ H ds.reverse vs.reverse
  | [], vs, r => by rw [rvs_nil] at r; subst r; exact (by rw [List.reverse_nil, List.reverse_nil, rvs_nil])
  | d :: ds, vs, r => by
    rw [rvs_cons] at r
    obtain ⟨v, us, rfl, r1, r2⟩ := r
    rw [List.reverse_cons, List.reverse_cons]
    exact r2.rev.append (.one r1)
theorem kvr_zip {fs : List Str} {ds : List D} {vs : List V} (l : ds.length = fs.length) (r : RVs K g ρ H ds vs) : KVr K g ρ H (fs.zip ds).reverse (fs.zip vs).reverse := by
  have lv := r.length
  have e1 : (fs.zip ds).map Prod.fst = fs := List.map_fst_zip (by omega)
  have e2 : (fs.zip vs).map Prod.fst = fs := List.map_fst_zip (by omega)
  have e3 : (fs.zip ds).map Prod.snd = ds := List.map_snd_zip (by omega)
  have e4 : (fs.zip vs).map Prod.snd = vs := List.map_snd_zip (by omega)
  refine ⟨?_, ?_⟩
  · rw [List.map_reverse, List.map_reverse, e1, e2]
  · rw [List.map_reverse, List.map_reverse, e3, e4]
    exact r.rev
end
section
variable {X : Cx} {g : Gm} {W : WX} {e : Expr} {es : List Expr} {as : AA} {x : Str} {p pos pos2 : Pos}
theorem ds_raise {c : Nat} {fs : List Str} {j : Nat} (xc : Xcl X.prog X.w X.K X.mg X.base g c x fs) (hc : X.calm = true) (hr : Room j X.A) (hj : 2 ≤ j) (tk : Takes X W) (hg : Gl X x) (ha : DA X g W (e :: es) as) (hfs : fs.length ≤ 1000)
    (hdb : (x == ("__debug__" : Str)) = false := by decide) (he : starEach (e :: es) X.env = (false, eval e X.env) :: starEach es X.env := by rfl) (hpl : (backTo pos (starEach es X.env)).any (·.1) = false := by rfl) :
    DS X g W (.Raise (some (.Call (.Name x p) (e :: es) [] pos)) none pos2) (sRaise c fs as) := by
  obtain ⟨C, fI, fd, hC, hm, T, _, hno, iC, tI, F, hb⟩ := xc.ex
  have pass : Passes (L2.CX X.prog X.w) X (fun _ _ _ => False) := passes_call tk fun _ _ _ _ z => z.elim
  refine ⟨PS.imp (ps_raise hc tk (pmk_oex T iC tI F (hr.mono hj) hb .nil pass hg hm ha.pa hdb he hpl)) fun D σ H ⟨ρ, δ, M, mr, sr, h⟩ => ?_⟩
  refine tD_mono (tD_stm (R := RVs X.K g) (k := fun ds M1 => if ds.length = fs.length then .ex ⟨c, (fs.zip ds).reverse⟩ δ M1 else .no) mr sr h) fun vs H1 ⟨ρ1, M1, ds, e1, m1, s1, r1, h1⟩ => ?_
  by_cases hl : ds.length = fs.length
  · rw [if_pos hl] at h1
    have hv : vs.length = fs.length := by rw [r1.length, hl]
    refine ⟨by omega, fun a na => ⟨a, C, vs, by rw [List.append_nil], hv, T, hno, upd_same, fun dx H2 n ne ea ed old => ⟨rfl, dx, _, ea, ed, ?_, ?_⟩⟩⟩
    · rw [upd_ne ne] at n; exact n
    · have nd : H1 dx = none := by rw [upd_ne ne] at n; exact n
      have eH : upd (del H2 a) dx (.xd (fs.zip vs).reverse) = upd H1 dx (.xd (fs.zip vs).reverse) := by
        funext b
        by_cases hb : b = dx
        · rw [hb, upd_same, upd_same]
        · rw [upd_ne hb, upd_ne hb]
          by_cases ha : b = a
          · rw [ha, del_same, na]
          · rw [del_ne ha, old b ha hb, upd_ne ha]
      rw [eH]
      have x0 : Ext ρ1 M1 H1 ρ1 M1 (upd H1 dx (.xd (fs.zip vs).reverse)) := ext_new nd
      exact h1 ρ1 (.ref C) (some dx) σ _ x0 (mr_new m1 nd) (x0.sr s1) ⟨C, hC, rfl, .inr ⟨dx, _, rfl, upd_same, (kvr_zip hl r1).mono x0.kp .refl⟩⟩
  · rw [if_neg hl] at h1
    exact h1.elim
end
end Dl

set_option Elab.async false
set_option linter.all false
set_option autoImplicit false
set_option maxRecDepth 100000
set_option maxHeartbeats 4000000
/-! The D-layer: several except clauses, with names of the errors or without. -/
namespace Dl
open PySem PySem.Spec PyProof.Rows L2
abbrev Suite := Addr → Value → Option Addr → TS
/-- the ends behind a suite: the name of the error is gone -/
def endsA (i : Nat) (as : Bool) (D : Ends) : Ends := if as then { nx := fun τ H' => D.nx (τ.set i none) H', rt := D.rt, bk := fun τ H' => D.bk (τ.set i none) H', ct := fun τ H' => D.ct (τ.set i none) H' } else D
def slotA (i : Nat) (as : Bool) (a : Addr) (σ : L2.St) : L2.St := if as then σ.set i (some (.ref a)) else σ
/-- what the clauses wish of an error of the body: slot i is the name's -/
def wA (K : PySem.W.Frag) (i : Nat) (Wout : WX) (D : Ends) : List (Value × Bool × Suite) → WX
  | [] => Wout
  | (c, as, ts) :: r => fun cls d σ H => ∃ b, PySem.W.exmOne K cls c = some b ∧ (b = true → ∀ a, H a = none → ts a cls d (endsA i as D) (slotA i as a σ) H) ∧ (b = false → wA K i Wout D r cls d σ H)
/-- the clauses, each with its suite's reading -/
inductive HdsA (X : Cx) (n : Str) : List ExceptHandler → List (Value × Bool × Suite) → Prop
  | nil : HdsA X n [] []
  | name {x : Str} {c : Value} {ts : Suite} {b0 : Stmt} {rest : List Stmt} {np pq : Pos} {hds : List ExceptHandler} {l : List (Value × Bool × Suite)} (hc : Names X x c)
      (hsu : ∀ (a : Addr) (oe : Obj) (cls : Value) (d : Option Addr) (pn : List (Addr × Obj)), Zc cls d oe → (∃ vs, oe.data = .fields vs) → PSs (X.suite a ((a, oe) :: pn)) (b0 :: rest) (ts a cls d)) (r : HdsA X n hds l) :
      HdsA X n (.ExceptHandler (some (.Name x np)) (some n) (b0 :: rest) pq :: hds) ((c, true, ts) :: l)
  | bare {x : Str} {c : Value} {ts : Suite} {b0 : Stmt} {rest : List Stmt} {np pq : Pos} {hds : List ExceptHandler} {l : List (Value × Bool × Suite)} (hc : Names X x c)
      (hsu : ∀ (a : Addr) (oe : Obj) (cls : Value) (d : Option Addr) (pn : List (Addr × Obj)), Zc cls d oe → (∃ vs, oe.data = .fields vs) → PSs (X.suite a ((a, oe) :: pn)) (b0 :: rest) (ts a cls d)) (r : HdsA X n hds l) :
      HdsA X n (.ExceptHandler (some (.Name x np)) none (b0 :: rest) pq :: hds) ((c, false, ts) :: l)
section
variable {X : Cx} {n : Str} {i : Nat} {body : List Stmt} {h0 : ExceptHandler} {hds : List ExceptHandler} {l : List (Value × Bool × Suite)} {pos : Pos} {tb : WX → TS} {Wout : WX}
theorem ps_tryA (hst : X.stack = X.env :: X.outer) (hfr : X.env.frame = some X.env.locals) (hN : X.N.Nodup) (hi : X.N[i]? = some n) (hln : X.env.kindOf n = some .local) (tk : Takes X Wout)
    (hbody : ∀ (W : WX) (pn : List (Addr × Obj)) (xe : Value → Shared → Prop), Takes (X.tr pn xe) W → PassesOwn (model X.prog X.w) X.A X.env xe → PSs (X.tr pn xe) body (tb W))
    (hh : HdsA X n (h0 :: hds) l) : PS X (.Try body (h0 :: hds) [] [] pos) (fun D σ H => tb (wA X.K i Wout D l) D σ H) := by
  refine ⟨fun pins s σ H D I hrd => ?_⟩
  have ok := I.ok
  have frames : X.A.frames = some (X.env :: X.outer) := by rw [ok.frames, hst]
  have isLoc : L2.Loc X.env.scope n := .inl hln
  refine wpAny_Try_except ?_
  let look : Value → Shared → Prop := fun e s₁ => wpAny (model X.prog X.w) X.A (noteFrame e X.env) (fun _ s₂ => wpAny (model X.prog X.w) X.A (setFlight e none) (fun _ s₃ =>
    wpAny (model X.prog X.w) X.A (handleBy e X.env (h0 :: hds)) (SP X pins D) X.xe s₃) X.xe s₂) X.xe s₁
  have caught : ∀ u t, XE (X.tr (X.pn ++ pins) look) (wA X.K i Wout D l) u t → look u t := by
    intro u t xx
    obtain ⟨a, B, sI, pins2, τ, H2, cls, d, rfl, J2, nb, up, sky, na, os, ag, wish⟩ := xx
    have J : Inv X pins τ H2 sI := J2.ofTry ok
    have sky2 : Sky B (X.env :: X.outer) a (Zc cls d) X.env.locals t.heap := by rw [← hst]; exact sky
    show wpAny (model X.prog X.w) X.A (noteFrame (.ref a) X.env) _ _ _
    refine Sky.land Zc.steady frames hfr sky2 fun g3 fl3 up3 => ?_
    have J3 : Inv X pins τ H2 { t with heap := g3 } := J.landed nb fl3.1 (up.trans up3) os ag
    obtain ⟨oe, us, q1, q2, q3⟩ := fl3.there
    have apart : a ∉ frs (X.env :: X.outer) := fun hm => by
      obtain ⟨_, o', e', hnf⟩ := fl3.2.2.1.mem hm
      rw [q1] at e'; cases e'
      exact hnf _ q3
    have nL : a ≠ X.env.locals := fun z => apart (List.mem_filterMap.mpr ⟨X.env, List.mem_cons_self, by rw [hfr, z]⟩)
    have nF : a ∉ X.fs := fun hm => by
      obtain ⟨e, he, q⟩ := List.mem_filterMap.mp hm
      exact apart (List.mem_filterMap.mpr ⟨e, List.mem_cons_of_mem _ he, q⟩)
    have S3 := J3.suite q1 q3 na nL nF
    have isC : PySem.W.Looks (model X.prog X.w) g3 (typeOf (.ref a)) cls := fun A Q E s k q => wpAny_typeOf_ref (k _ _ q1) (by rw [q2.1]; exact q)
    have test : ∀ {x : Str} {np : Pos} {c : Value} {Q : Value → Shared → Prop} {E : Value → Shared → Prop}, Names X x c → Q c { t with heap := g3 } → wpAny (model X.prog X.w) (X.A.mark (some (.ref a))) (eval (.Name x np) X.env) Q E { t with heap := g3 } := fun {x np c Q E} hc q => by
      obtain ⟨hg, hdbg, hm | ⟨hm, hv, hnn⟩⟩ := hc
      · exact ld_glob (X := X.suite a ((a, oe) :: (X.pn ++ pins))) S3 hg hm q hdbg
      · exact ld_blt (X := X.suite a ((a, oe) :: (X.pn ++ pins))) S3 hg hm hv q hnn hdbg
    -- behind a suite the error is no longer known
    have plainEnd : ∀ {oe4 : Obj} {f : Flow} {s6 : Shared}, SP (X.suite a ((a, oe4) :: (X.pn ++ pins))) [] D f s6 → SP X pins D f s6 := fun {oe4 f s6} hsp => by
      cases f with
      | next => obtain ⟨σ6, H6, S6, q6⟩ := hsp; exact ⟨_, _, S6.unsuite ok, q6⟩
      | brk => obtain ⟨σ6, H6, S6, q6⟩ := hsp; exact ⟨_, _, S6.unsuite ok, q6⟩
      | cont => obtain ⟨σ6, H6, S6, q6⟩ := hsp; exact ⟨_, _, S6.unsuite ok, q6⟩
      | ret u => obtain ⟨v6, σ6, H6, S6, r6, q6⟩ := hsp; exact ⟨_, _, _, S6.unsuite ok, r6, q6⟩
    have go : ∀ {hs : List ExceptHandler} {ls : List (Value × Bool × Suite)}, HdsA X n hs ls → wA X.K i Wout D ls cls d τ H2 →
        wpAny (model X.prog X.w) X.A (handleBy (.ref a) X.env hs) (SP X pins D) X.xe { t with heap := g3 } := by
      intro hs ls hk
      induction hk with
      | nil =>
        intro wo
        refine wpAny_handleBy_nil ?_
        obtain ⟨_, _, _, ob, bs, T, oT, tt, r1, r2, r3, r4, r5⟩ := id fl3
        unfold PySem.passOn
        refine wpAny_bind (wpAny_field r1 r3 r4 ?_)
        rw [if_neg (show ¬ ((Value.ref T == Value.none) = true) from by simp)]
        have out : wpAny (model X.prog X.w) X.A (setFlight (.ref a) X.env.frame) (fun _ s4 => wpAny (model X.prog X.w) X.A (throw (.ref a) : Sem Flow) (SP X pins D) X.xe s4) X.xe { t with heap := g3 } := by
          rw [hfr]
          refine HandSPX.setFlight_upZ fl3 fun g4 hh4 up4 => wpAny_throw (tk _ _ ?_)
          exact ⟨a, B, sI, pins, τ, H2, cls, d, rfl, J, nb, (up.trans up3).trans up4, .inr (.inr (by rw [hst]; exact hh4)), na, os, ag, wo⟩
        first
          | exact wpAny_bind (wpAny_pure (wpAny_bind out))
          | exact wpAny_bind out
      | @name x c ts b0 rest np pq hds2 l2 hc hsu r ih =>
        intro wo
        obtain ⟨b, hb1, hyes, hno⟩ := wo
        refine wpAny_handleBy_cons (codeAny_handlers_test (test hc ((PySem.W.exm_one (M := model X.prog X.w) (J3.kIn) isC hb1).here ?_))) (by intro q; cases q)
        cases b with
        | true =>
          refine codeAny_handlers_suite_as (HandSPX.lands_againZ fl3 fun g4 fl4 up4 => ?_)
          have J4 : Inv X pins τ H2 { t with heap := g4 } := J.landed nb fl4.1 ((up.trans up3).trans up4) os ag
          obtain ⟨oe4, us4, z1, z2, z3⟩ := fl4.there
          refine store_ok (X := X.suite a ((a, oe4) :: (X.pn ++ pins))) (v := .ref a) (J4.suite z1 z3 na nL nF) hN hi isLoc rfl (fun s5 S5 => ?_) (.inr hln)
          refine wpAny_mono ((hsu a oe4 cls d (X.pn ++ pins) z2 ⟨_, z3⟩).run [] s5 _ H2 _ S5 (hyes rfl a na)) (fun f s6 hsp => ?_) (fun _ _ z => False.elim z)
          have away : ∀ {σ6 : L2.St} {H6 : Hp} {Q : Shared → Prop}, Inv (X.suite a ((a, oe4) :: (X.pn ++ pins))) [] σ6 H6 s6 → (∀ s7, Inv X pins (σ6.set i none) H6 s7 → Q s7) →
              wpAny (model X.prog X.w) X.A (do bindName X.env n .none; unbindBehindTheSuite X.env n pq) (fun _ s7 => Q s7) X.xe s6 := fun {σ6 H6 Q} S6 hq => gone_ok (S6.unsuite ok) hN hi hln hq
          cases f with
          | next => obtain ⟨σ6, H6, S6, q6⟩ := hsp; exact away S6 fun s7 J7 => ⟨_, _, J7, q6⟩
          | brk => obtain ⟨σ6, H6, S6, q6⟩ := hsp; exact away S6 fun s7 J7 => ⟨_, _, J7, q6⟩
          | cont => obtain ⟨σ6, H6, S6, q6⟩ := hsp; exact away S6 fun s7 J7 => ⟨_, _, J7, q6⟩
          | ret u => obtain ⟨v6, σ6, H6, S6, r6, q6⟩ := hsp; exact away S6 fun s7 J7 => ⟨_, _, _, J7, r6, q6⟩
        | false =>
          show wpAny _ X.A (handleBy (.ref a) X.env hds2) _ _ _
          exact ih (hno rfl)
      | @bare x c ts b0 rest np pq hds2 l2 hc hsu r ih =>
        intro wo
        obtain ⟨b, hb1, hyes, hno⟩ := wo
        refine wpAny_handleBy_cons (codeAny_handlers_test (test hc ((PySem.W.exm_one (M := model X.prog X.w) (J3.kIn) isC hb1).here ?_))) (by intro q; cases q)
        cases b with
        | true =>
          refine codeAny_handlers_suite (HandSPX.lands_againZ fl3 fun g4 fl4 up4 => ?_)
          have J4 : Inv X pins τ H2 { t with heap := g4 } := J.landed nb fl4.1 ((up.trans up3).trans up4) os ag
          obtain ⟨oe4, us4, z1, z2, z3⟩ := fl4.there
          exact wpAny_mono ((hsu a oe4 cls d (X.pn ++ pins) z2 ⟨_, z3⟩).run [] _ _ H2 _ (J4.suite z1 z3 na nL nF) (hyes rfl a na)) (fun f s6 hsp => plainEnd hsp) (fun _ _ z => False.elim z)
        | false =>
          show wpAny _ X.A (handleBy (.ref a) X.env hds2) _ _ _
          exact ih (hno rfl)
    exact go hh wish
  refine wpAny_mono ((hbody (wA X.K i Wout D l) (X.pn ++ pins) look caught PassesOwn.looking).run [] s σ H D (I.toTry _) hrd) (fun f s1 hsp => ?_) (fun e s1 he => he)
  cases f with
  | next => obtain ⟨τ, H2, J2, q⟩ := hsp; exact wpAny_execs_nil ⟨τ, H2, J2.ofTry ok, q⟩
  | brk => obtain ⟨τ, H2, J2, q⟩ := hsp; exact ⟨τ, H2, J2.ofTry ok, q⟩
  | cont => obtain ⟨τ, H2, J2, q⟩ := hsp; exact ⟨τ, H2, J2.ofTry ok, q⟩
  | ret u => obtain ⟨v, τ, H2, J2, r, q⟩ := hsp; exact ⟨v, τ, H2, J2.ofTry ok, r, q⟩
end
end Dl

set_option Elab.async false
set_option linter.all false
set_option autoImplicit false
set_option maxRecDepth 100000
set_option maxHeartbeats 4000000
/-! The D-layer: what a suite makes of a caught error. -/
namespace Dl
open PySem PySem.Spec PyProof.Rows L2
abbrev HH := Exn → Mem → Rs D
abbrev HHs := Exn → Mem → Rs (List D)
section
variable {K : PySem.W.Frag} {g : Gm} {ρ ρ' : List Addr} {M M' : Mem} {H H' : Hp}
theorem nolv_xd {d : Addr} {fs : List (Str × V)} (m : MR K g ρ M H) (e : H d = some (.xd fs)) : ¬ Lv ρ M d := by
  rintro ⟨n, h, l⟩
  obtain ⟨u, hu, _, _, _, mu, _⟩ := m.live_some h l
  rw [e] at hu
  cases hu
  exact mu.elim
theorem RX.ext {x : Exn} {cls : Value} {dx : Option Addr} (m : MR K g ρ M H) (r : RX K g ρ H x cls dx) (e : Ext ρ M H ρ' M' H') : RX K g ρ' H' x cls dx := by
  obtain ⟨C, h1, h2, h3⟩ := r
  refine ⟨C, h1, h2, h3.imp id fun ⟨d, fs, q1, q2, q3⟩ => ⟨d, fs, q1, e.frame d _ q2 (nolv_xd m q2) (fun _ z => nomatch z), q3.mono e.kp e.pre⟩⟩
theorem kvr_lookup {fs : List (Str × D)} {gs : List (Str × V)} {f : Str} {d : D} (r : KVr K g ρ H fs gs) (e : fs.lookup f = some d) : ∃ v, gs.lookup f = some v ∧ RV K g ρ H d v := by
  obtain ⟨hk, hv⟩ := r
  induction fs generalizing gs with
  | nil => cases e
  | cons p fs ih =>
    obtain ⟨f', d'⟩ := p
    cases gs with
    | nil => cases hk
    | cons q gs =>
      obtain ⟨f2, v2⟩ := q
      rw [List.map_cons, List.map_cons] at hk hv
      injection hk with k1 k2
      simp only at k1
      subst k1
      rw [rvs_cons] at hv
      obtain ⟨v, rest, e1, r1, r2⟩ := hv
      injection e1 with e2 e3
      subst e2 e3
      by_cases hf : f = f'
      · subst hf
        simp only [List.lookup, beq_self_eq_true] at e ⊢
        cases e
        exact ⟨_, rfl, r1⟩
      · have hb : (f == f') = false := by simpa using hf
        simp only [List.lookup, hb] at e ⊢
        exact ih e k2 r2
end
/-- the reading of an expression of a suite: slot i holds the error -/
def tX {α β : Type} (K : PySem.W.Frag) (g : Gm) (R : List Addr → Hp → α → β → Prop) (i : Nat) (a : Addr) (cls : Value) (dx : Option Addr) (h : Exn → Mem → Rs α) : L2.St → Hp → (β → Hp → Prop) → Prop :=
  fun σ H Q => σ[i]? = some (some (.ref a)) ∧ ∃ ρ M x, MR K g ρ M H ∧ RX K g ρ H x cls dx ∧ pOk K g R ρ M H (h x M) Q
structure DX (X : Cx) (g : Gm) (i : Nat) (e : Expr) (h : HH) : Prop where
  pe : ∀ (a : Addr) (oe : Obj) (cls : Value) (dx : Option Addr) (pn : List (Addr × Obj)), Zc cls dx oe → (∃ vs, oe.data = .fields vs) → PE (X.suite a ((a, oe) :: pn)) e (tX X.K g (RV X.K g) i a cls dx h)
structure DXs (X : Cx) (g : Gm) (i : Nat) (es : List Expr) (h : HHs) : Prop where
  pa : ∀ (a : Addr) (oe : Obj) (cls : Value) (dx : Option Addr) (pn : List (Addr × Obj)), Zc cls dx oe → (∃ vs, oe.data = .fields vs) → PA (X.suite a ((a, oe) :: pn)) es (tX X.K g (RVs X.K g) i a cls dx h)
def hC (d : D) : HH := fun _ M => .ok d M
def hF (c : Nat) (f : Str) : HH := fun x M => if x.c = c then (match x.fs.lookup f with | some d => .ok d M | none => .no) else .no
def hNil : HHs := fun _ M => .ok [] M
def hCons (a : HH) (r : HHs) : HHs := fun x M => match a x M with
  | .ok d M1 => match r x M1 with
    | .ok ds M2 => .ok (d :: ds) M2
    | _ => .no
  | _ => .no
noncomputable def hTup (r : HHs) : HH := fun x M => match r x M with
  | .ok ds M1 => if sz ds.length then .ok (.tup ds) M1 else .no
  | _ => .no
section
variable {X : Cx} {g : Gm} {i : Nat} {e : Expr} {es : List Expr} {h : HH} {r : HHs} {pos : Pos}
theorem dx_str {s : Str} {j : Nat} : DX X g i (.Constant (.str s) j pos) (hC (.str s)) :=
  ⟨fun a oe cls dx pn _ _ => PE.imp pe_str fun σ H Q ⟨_, ρ, M, x, mr, _, h⟩ => h.now mr (by rw [rv_str])⟩
theorem dx_int {n : Int} {j : Nat} : DX X g i (.Constant (.int n) j pos) (hC (.int n)) :=
  ⟨fun a oe cls dx pn _ _ => PE.imp pe_int fun σ H Q ⟨_, ρ, M, x, mr, _, h⟩ => h.now mr (by rw [rv_int])⟩
/-- err.f -/
theorem dx_f {c : Nat} {x f : Str} {fs : List Str} {n : Str} {p : Pos} (xc : Xcl X.prog X.w X.K X.mg X.base g c x fs) (hf : f ∈ fs) (hN : X.N[i]? = some n) (hv : Vis X.env.scope n)
    (hb : attributeBase (.Name n p) f X.env (eval (.Name n p) X.env) = eval (.Name n p) X.env := by rfl)
    (hd : (n == ("__debug__" : Str)) = false := by decide) (hcd : (n == ("__classdict__" : Str)) = false := by decide) : DX X g i (.Attribute (.Name n p) f pos) (hF c f) := by
  obtain ⟨C, fI, fd, hC, _, _, T, hno, _⟩ := xc.ex
  refine ⟨fun a oe cls dx pn hz hfl => PE.imp (pe_xf (C := C) T (hno f hf) hz hfl (pe_var (X := X.suite a ((a, oe) :: pn)) (i := i) hN hv hd hcd) hb) fun σ H Q ⟨hs, ρ, M, y, mr, rx, h⟩ => ?_⟩
  unfold hF at h
  split at h
  · rename_i ec
    split at h
    · rename_i d ed
      obtain ⟨C', q1, q2, q3⟩ := rx
      rw [ec, hC] at q1
      cases q1
      rcases q3 with ⟨z, _⟩ | ⟨dd, fs', z1, z2, z3⟩
      · rw [z] at ed; cases ed
      · obtain ⟨v, l1, l2⟩ := kvr_lookup z3 ed
        exact ⟨.ref a, hs, rfl, q2, dd, fs', v, z1, z2, l1, h.now mr l2⟩
    · exact h.elim
  · exact h.elim
theorem dxs_nil : DXs X g i [] hNil := ⟨fun a oe cls dx pn _ _ => PA.imp pa_nil fun σ H Q ⟨_, ρ, M, x, mr, _, h⟩ => h.now mr (by rw [rvs_nil])⟩
theorem dxs_cons (ha : DX X g i e h) (hr : DXs X g i es r) (hs : starEach (e :: es) X.env = (false, eval e X.env) :: starEach es X.env := by rfl) : DXs X g i (e :: es) (hCons h r) := by
  refine ⟨fun a oe cls dx pn hz hfl => PA.imp (pa_cons (ha.pe a oe cls dx pn hz hfl) (hr.pa a oe cls dx pn hz hfl) hs) fun σ H Q ⟨hs, ρ, M, x, mr, rx, q⟩ => ?_⟩
  refine ⟨hs, ρ, M, x, mr, rx, ?_⟩
  unfold hCons at q
  cases e1 : h x M with
  | no => rw [e1] at q; exact q.elim
  | ex y M1 => rw [e1] at q; exact q.elim
  | ok d M1 =>
    rw [e1] at q
    intro ρ1 v H1 x1 m1 r1
    refine ⟨hs, ρ1, M1, x, m1, rx.ext mr x1, ?_⟩
    cases e2 : r x M1 with
    | no => simp only [e2] at q; exact q.elim
    | ex y M2 => simp only [e2] at q; exact q.elim
    | ok ds M2 =>
      simp only [e2] at q
      intro ρ2 vs H2 x2 m2 r2
      exact q ρ2 (v :: vs) H2 (x1.trans x2 m1.len mr.len) m2 (by rw [rvs_cons]; exact ⟨v, vs, rfl, x2.rv r1, r2⟩)
theorem dx_tup {k : Nat} (hr : DXs X g i es r) : DX X g i (.Tuple es k pos) (hTup r) := by
  refine ⟨fun a oe cls dx pn hz hfl => PE.imp (pe_tup (hr.pa a oe cls dx pn hz hfl)) fun σ H Q ⟨hs, ρ, M, x, mr, rx, q⟩ => ?_⟩
  refine ⟨hs, ρ, M, x, mr, rx, ?_⟩
  unfold hTup at q
  cases e1 : r x M with
  | no => rw [e1] at q; exact q.elim
  | ex y M1 => rw [e1] at q; exact q.elim
  | ok ds M1 =>
    simp only [e1] at q
    intro ρ1 vs H1 x1 m1 r1
    by_cases hz : sz ds.length = true
    · rw [if_pos hz] at q
      refine ⟨by rw [r1.length]; simpa [sz] using hz, fun p hp => ?_⟩
      exact tup_ok m1 hp r1 fun ρ2 v H2 x2 m2 r2 => q ρ2 v H2 (x1.trans x2 m1.len mr.len) m2 r2
    · rw [if_neg hz] at q; exact q.elim
end
end Dl

set_option Elab.async false
set_option linter.all false
set_option autoImplicit false
set_option maxRecDepth 100000
set_option maxHeartbeats 4000000
/-! The D-layer: met(lambda: body), where met is def met(call): try: return call() / except .. as ..: return .. -/
namespace Dl
open PySem PySem.Spec PyProof.Rows L2
def noX {α : Type} (r : Rs α) : Rs α := match r with
  | .ok d M => .ok d M
  | _ => .no
theorem noX_ex {α : Type} {r : Rs α} {y : Exn} {M : Mem} : noX r ≠ .ex y M := by
  unfold noX
  split <;> exact fun z => nomatch z
/-- the clause that takes an error -/
def findH (sub : Nat → Nat → Bool) : List (Nat × HH) → HH
  | [] => fun _ _ => .no
  | (c, h) :: r => fun x M => if sub x.c c then noX (h x M) else findH sub r x M
theorem findH_ex {sub : Nat → Nat → Bool} {x y : Exn} {M M' : Mem} : ∀ {l : List (Nat × HH)}, findH sub l x M ≠ .ex y M'
  | [] => fun z => nomatch z
  | (c, h) :: r => by
    unfold findH
    split
    · exact noX_ex
    · exact findH_ex
def metR (sub : Nat → Nat → Bool) (hs : List (Nat × HH)) (r : Rs D) : Rs D := match r with
  | .ok d M => .ok d M
  | .ex x M => findH sub hs x M
  | .no => .no
def eMet (sub : Nat → Nat → Bool) (hs : List (Nat × HH)) (m : EE) : EE := fun δ M => metR sub hs (m δ M)
/-- which class is a kind of which -/
def SubOk (K : PySem.W.Frag) (g : Gm) (sub : Nat → Nat → Bool) : Prop := ∀ (c c' : Nat) (C C' : Addr), g.ca c = some C → g.ca c' = some C' → PySem.W.exmOne K (.ref C) (.ref C') = some (sub c c')
/-- except X as n: return E -/
inductive MetH (X : Cx) (g : Gm) (i : Nat) (n : Str) : List ExceptHandler → List (Nat × HH) → Prop
  | nil : MetH X g i n [] []
  | cons {x : Str} {c : Nat} {C : Addr} {e : Expr} {h : HH} {np pq rp : Pos} {hds : List ExceptHandler} {l : List (Nat × HH)} (hc : Names X x (.ref C)) (hC : g.ca c = some C) (hE : DX X g i e h) (r : MetH X g i n hds l) :
      MetH X g i n (.ExceptHandler (some (.Name x np)) (some n) [.Return (some e) rp] pq :: hds) ((c, h) :: l)
section
variable {X : Cx} {g : Gm} {i : Nat} {n : Str} {hds : List ExceptHandler} {l : List (Nat × HH)} {sub : Nat → Nat → Bool}
theorem met_wish (m : MetH X g i n hds l) (so : SubOk X.K g sub) : ∃ ls, HdsA X n hds ls ∧ ∀ (D : Ends) (cls : Value) (dx : Option Addr) (σ : L2.St) (H : Hp) (ρ : List Addr) (M : Mem) (x : Exn), i < σ.length → MR X.K g ρ M H → RX X.K g ρ H x cls dx →
    pOk X.K g (RV X.K g) ρ M H (findH sub l x M) D.rt → wA X.K i (fun _ _ _ _ => False) D ls cls dx σ H := by
  induction m with
  | nil => exact ⟨[], .nil, fun D cls dx σ H ρ M x _ _ _ h => h.elim⟩
  | @cons x c C e h np pq rp hds l hc hC hE r ih =>
    obtain ⟨ls, h1, h2⟩ := ih
    refine ⟨_, .name (ts := fun a cls d D σ H => tX X.K g (RV X.K g) i a cls d h σ H D.rt) hc (fun a oe cls d pn hz hf => pss_one (ps_ret (hE.pe a oe cls d pn hz hf))) h1, fun D cls dx σ H ρ M y hi mr rx hw => ?_⟩
    obtain ⟨C', q1, q2, q3⟩ := id rx
    subst q2
    refine ⟨sub y.c c, so y.c c C' C q1 hC, fun hb a na => ?_, fun hb => ?_⟩
    · unfold findH at hw
      rw [if_pos hb] at hw
      refine ⟨by rw [slotA, if_pos rfl, List.getElem?_set_self hi], ρ, M, y, mr, rx, ?_⟩
      cases eh : h y M with
      | ok v M2 => rw [eh] at hw; exact hw
      | ex y2 M2 => rw [eh] at hw; exact hw.elim
      | no => rw [eh] at hw; exact hw.elim
    · unfold findH at hw
      rw [hb, if_neg Bool.false_ne_true] at hw
      exact h2 D _ dx σ H ρ M y hi mr rx hw
end
/-- the def x of such a form -/
structure MetC (P : Program) (w : World) (K : PySem.W.Frag) (mg : Str → Option Value) (base : Heap) (g : Gm) (x : Str) (l : List (Nat × HH)) : Prop where
  ex : ∃ (f : Addr) (fd : FuncData) (st : Stmt) (N : List Str) (a n : Str) (i : Nat) (h0 : ExceptHandler) (hds : List ExceptHandler) (p1 p2 p3 p4 : Pos), L2.Fun K x x st f fd ∧ mg x = some (.ref f) ∧ Binds K fd [a] [] ∧ FnScope N [a] (defScope st) ∧
    defBody st = [.Try [.Return (some (.Call (.Name a p1) [] [] p2)) p3] (h0 :: hds) [] [] p4] ∧ N[0]? = some a ∧ N[i]? = some n ∧ (defScope st).names.lookup n = some .local ∧ Vis (defScope st) a ∧ (a == ("__debug__" : Str)) = false ∧ (a == ("__classdict__" : Str)) = false ∧
    ∀ (cdv : Value) (A : Around) (outer : List Env) (s : Shared) (H : Hp) (E : XK), MetH (cxOf (L2.CX P w) P w K mg base N x (defScope st) f cdv A outer s H E) g i n (h0 :: hds) l
section
variable {X : Cx} {g : Gm} {W : WX} {x : Str} {l : List (Nat × HH)} {sub : Nat → Nat → Bool} {c P : Addr} {params : Arguments} {body : Expr} {scope : Scope} {m : EE} {p pos lpos : Pos}
/-- the lambda, called in a frame above its maker's -/
theorem thunk_call {k : Nat} {Z : Cx} {pins : List (Addr × Obj)} {σ : L2.St} {H : Hp} {s : Shared} {a : Str} {f d : Addr} {p1 p2 : Pos} {WZ : WX} (I : Inv X pins σ H s) (L : LamX.LamS X.env.scope scope) (e1 : Z.prog = X.prog) (e2 : Z.w = X.w) (e3 : Z.K = X.K) (e4 : Z.mg = X.mg) (e5 : Z.base = X.base)
    (e6 : Z.H_0 = H) (e7 : Z.s_0 = s) (e8 : Z.fs = frs X.stack) (e9 : Z.ex = []) (hgd : Z.A.guards = some []) (hr : Room (k + 1) Z.A)
    (hbind : ∀ (q : Str) (cl : List (Str × Addr)) (pm cv ctv : Value), bindArgs (PySem.W.kla_fn "<lambda>" q params body scope cl pm cv ctv) ⟨[], []⟩ = pure []) (tk : Takes Z WZ)
    (hbody : ∀ (A : Around) (outer : List Env) (s : Shared) (H : Hp) (E : XK) (f d : Addr), A.guards = some [] → Room k (A.deeper (LamX.lamEnv X scope s.heap.objs.size f d)) → DE (LamX.lamCx X A outer s H E scope f d) g (fun cls dx _ H => E cls dx H) body m)
    (hN : Z.N[0]? = some a) (hv : Vis Z.env.scope a) (hd : (a == ("__debug__" : Str)) = false) (hcd : (a == ("__classdict__" : Str)) = false) :
    PE Z (.Call (.Name a p1) [] [] p2) (fun τ HZ Q => τ[0]? = some (some (.ref f)) ∧ HZ f = some (LamO f ⟨X.env.qual ++ "<lambda>", params, body, scope⟩ (cloFrom X.env.cells scope.names []) d) ∧ HZ d = some (LamX.CodeO d (X.env.qual ++ "<lambda>")) ∧
      tE X.K g (fun cls dx _ H => WE WZ τ cls dx H) m σ HZ Q) := by
  refine ⟨fun pinsZ sZ τ HZ Q IZ hq => ?_⟩
  obtain ⟨hs, h1, h2, ht⟩ := hq
  refine wpAny_Call_Name_kw (thn ((pe_var (pos := p1) (i := 0) hN hv hd hcd).run pinsZ sZ τ HZ (fun v H1 => v = .ref f ∧ H1 = HZ) IZ ⟨.ref f, hs, rfl, rfl⟩) fun u s1 ⟨v, H1, I1, r1, q1⟩ => ?_)
  obtain ⟨rfl, rfl⟩ := q1
  cases r1
  obtain ⟨pm, ctv, ho⟩ := lamO_at I1.hok h1
  refine PySem.W.callWith_F0 ⟨_, _, _, _, ho⟩ ?_
  have un : Un (frs X.stack) [] H H1 s.heap s1.heap := by
    have b := I1.base
    rw [e6, e7, e8, e9] at b
    exact b
  have rc : codeAny (model Z.prog Z.w) Z.A (.call (.ref f) ⟨[], []⟩) (CR (L2.CX Z.prog Z.w) Z.stack Z.prog Z.w H1 s1 Q (WE WZ τ)) s1 := by
    refine PySem.W.kla_callFunE hr.depth ho rfl L.co L.gen rfl (NdefX.codeO_at I1.hok h2) ?_
    rw [hbind]
    refine wpAny_pure (wpAny_newFunctionEnv (fun y hy => (L.own y hy).2) (fun y hy => absurd hy (by simp)) (fun g1 hns hsb => ⟨I1.nolimit.fresh _ hsb, ?_⟩) L.kind)
    show codeAny _ _ (.expr body (LamX.lamEnv X scope s1.heap.objs.size f d)) _ _
    have kp : ∀ b o, s1.heap.get? b = some o → g1.get? b = some o := fun b o e => hsb.extBut b o (Nat.ne_of_lt (Heap.lt_size e)) (Heap.get?_push_of_some _ e)
    have env0 : Env0 X.prog X.w X.K X.mg X.base Z.A Z.stack s1 H1 := by
      have b := I1.env0
      rw [e1, e2, e3, e4, e5] at b
      exact b
    have J : Inv (LamX.lamCx X Z.A Z.stack s1 H1 (WE WZ τ) scope f d) [] σ H1 { s1 with heap := g1, toks := s1.toks + ([] : List (Str × Value)).length } := LamX.lam_start2 I L env0 hr.hd un hns kp
    rw [e1, e2]
    refine PySem.W.kla_codeExpr (wpAny_mono ((hbody _ _ s1 H1 (WE WZ τ) f d hgd (hr.deeper _)).pe.run [] _ σ H1 Q J ht) (fun v s' hq => ?_) fun e s' hq => hq)
    obtain ⟨w', H', J', rv, q⟩ := hq
    exact ⟨w', H', J'.os, J'.bare, J'.base, J'.hok, rv, q⟩
  refine wpAny_call (codeAny_mono rc fun r s' hq => ?_)
  cases r with
  | error e => exact passAt tk τ pinsZ H1 s1 e s' I1 hq
  | ok fl =>
    cases fl with
    | ret u => exact I1.after hq
    | next => exact hq.elim
    | brk => exact hq.elim
    | cont => exact hq.elim
/-- x(lambda: body) -/
theorem de_met {j k : Nat} (mc : MetC X.prog X.w X.K X.mg X.base g x l) (so : SubOk X.K g sub) (hgd : X.A.guards = some []) (hr : Room j X.A) (hk : k + 2 ≤ j) (hg : Gl X x) (TB : LamX.TabB X.base X.mg c P) (hcode : X.env.code = .ref c)
    (hmT : (P, X.env.qual ++ "<lambda>") ∈ g.T) (hu : ∀ p ∈ g.T, p.1 = P → p.2 = X.env.qual ++ "<lambda>") (L : LamX.LamS X.env.scope scope)
    (hbody : ∀ (A : Around) (outer : List Env) (s : Shared) (H : Hp) (E : XK) (f d : Addr), A.guards = some [] → Room k (A.deeper (LamX.lamEnv X scope s.heap.objs.size f d)) → DE (LamX.lamCx X A outer s H E scope f d) g (fun cls dx _ H => E cls dx H) body m)
    (hdef : defaultsOf params X.env = ([], []) := by rfl)
    (hbind : ∀ (q : Str) (cl : List (Str × Addr)) (pm cv ctv : Value), bindArgs (PySem.W.kla_fn "<lambda>" q params body scope cl pm cv ctv) ⟨[], []⟩ = pure [] := by exact fun _ _ _ _ _ => rfl)
    (hdb : (x == ("__debug__" : Str)) = false := by decide) : DE X g W (.Call (.Name x p) [.Lambda params body scope lpos] [] pos) (eMet sub l m) := by
  obtain ⟨fA, fd, st, N, a, n, i, h0, hds, p1, p2, p3, p4, F, hm, hb, S, hB, hN, hi, hln, hv, hd, hcd, mh⟩ := mc.ex
  obtain ⟨oc, od, kV, doc, pm, an, cdv, ct, osl, rfl, lk, hcg⟩ := F.ex
  refine ⟨⟨fun pins s σ H Q I h => ?_⟩⟩
  obtain ⟨ρ, δ, M, mr, sr, h⟩ := h
  refine wpAny_Call_Name_kw (ld_glob I hg hm ?_ hdb)
  refine PySem.W.callWith_K (h₀ := X.base) I.ok.mod.kin F.kp ?_ (by rfl) (by rfl)
  show wpAny _ _ (spliced ((false, eval (.Lambda params body scope lpos) X.env) :: backTo pos (starEach [] X.env))) _ _ s
  refine Calls.spliced_cons (lam_mk I TB hcode hmT hu mr.tab hdef (L.has I.ok) fun f d H1 s1 I1 eN nn T1 f0 hf hco => ?_)
  refine Calls.spliced_nil ⟨I1.kIn, ?_⟩
  have x0 : Ext ρ M H ρ M H1 := ext_extN eN nn
  have mr1 : MR X.K g ρ M H1 := mr_extN mr eN T1
  have sr1 := x0.sr sr
  have hr2 : Room (k + 2) X.A := hr.mono hk
  have rc : codeAny (model X.prog X.w) X.A (.call (.ref fA) ⟨[.ref f], []⟩) (CR (L2.CX X.prog X.w) X.stack X.prog X.w H1 s1 Q (fun _ _ _ => False)) s1 := by
    refine LamX.run_ofS (N := N) (ps := [a]) (us := [.ref f]) (vs := [.ref f]) lk hcg S hr2 I1.env0 (hb s1 [.ref f] I1.kIn rfl) (.cons rfl .nil) rfl fun hr' => ?_
    let Z := cxOf (L2.CX X.prog X.w) X.prog X.w X.K X.mg X.base N x (defScope st) fA cdv X.A X.stack s1 H1 (fun _ _ _ => False)
    obtain ⟨ls, w1, w2⟩ := met_wish (mh cdv X.A X.stack s1 H1 (fun _ _ _ => False)) so
    rw [hB]
    refine ⟨_, pss_one (ps_tryA (X := Z) (i := i) (n := n) (Wout := fun _ _ _ _ => False)
      (tb := fun W D τ HZ => τ[0]? = some (some (.ref f)) ∧ HZ f = some (LamO f ⟨X.env.qual ++ "<lambda>", params, body, scope⟩ (cloFrom X.env.cells scope.names []) d) ∧ HZ d = some (LamX.CodeO d (X.env.qual ++ "<lambda>")) ∧ tE X.K g (fun cls dx _ H => WE W τ cls dx H) m σ HZ D.rt)
      rfl rfl S.nd hi hln LamX.takes0 (fun W pn xe tk _ => pss_one ?_) w1), ?_⟩
    · have act := thunk_call (k := k) (Z := Z.tr pn xe) (p1 := p1) (p2 := p2) (f := f) (d := d) (g := g) (m := m) I1 L rfl rfl rfl rfl rfl rfl rfl rfl rfl hgd hr' hbind tk hbody hN hv hd hcd
      exact ps_ret act
    · have i0 : (L2.start N [V.ref f])[0]? = some (some (.ref f)) := rfl
      have hlen : i < (L2.start N [V.ref f]).length := by
        have h1 := (List.getElem?_eq_some_iff.mp hi).1
        have h2 := (List.getElem?_eq_some_iff.mp hN).1
        unfold L2.start
        simp
        omega
      refine ⟨i0, hf, hco, ρ, δ, M, mr1, sr1, ?_⟩
      cases em : m δ M with
      | no => unfold eMet metR at h; rw [em] at h; exact h.elim
      | ok v M' =>
        unfold eMet metR at h
        rw [em] at h
        exact fun ρ' v H' x m r => h ρ' v H' (x0.trans x mr1.len mr.len) m r
      | ex y M' =>
        unfold eMet metR at h
        rw [em] at h
        intro ρ' cls dx H' x m r
        refine w2 _ cls dx _ H' ρ' M' y hlen m r ?_
        simp only at h
        cases ef : findH sub l y M' with
        | ok v M2 =>
          rw [ef] at h
          exact fun ρ2 v H2 z m2 r2 => h ρ2 v H2 ((x0.trans x mr1.len mr.len).trans z m.len mr.len) m2 r2
        | ex y2 M2 => exact absurd ef findH_ex
        | no => rw [ef] at h; exact h.elim
  refine wpAny_call (codeAny_mono rc fun r s2 hq => ?_)
  cases r with
  | error e =>
    obtain ⟨_, _, _, _, _, _, _, _, _, _, _, _, z⟩ := hq
    exact z.elim
  | ok fl =>
    cases fl with
    | ret u => exact I1.after hq
    | next => exact hq.elim
    | brk => exact hq.elim
    | cont => exact hq.elim
end
end Dl

set_option Elab.async false
set_option linter.all false
set_option autoImplicit false
set_option maxRecDepth 100000
set_option maxHeartbeats 4000000
/-! The D-layer: names for the printer: lambdas by their place in the text, defs that make lambdas, defs that try. -/
namespace Dl
open PySem PySem.Spec PyProof.Rows L2
/-! ### places in the text -/
def chE (e : Expr) : List Expr := match e with
  | .BoolOp _ vs _ => vs
  | .BinOp l _ r _ => [l, r]
  | .UnaryOp _ o _ => [o]
  | .IfExp t b o _ => [t, b, o]
  | .Compare l _ cs _ => l :: cs
  | .Call f as _ _ => f :: as
  | .Attribute v _ _ => [v]
  | .Subscript v s _ => [v, s]
  | .List es _ => es
  | .Tuple es _ _ => es
  | .Lambda _ b _ _ => [b]
  | _ => []
def chS (s : Stmt) : List Expr := match s with
  | .Return (some e) _ => [e]
  | .Assign _ v _ => [v]
  | .AugAssign _ _ v _ => [v]
  | .For _ it _ _ _ => [it]
  | .While t _ _ _ => [t]
  | .If t _ _ _ => [t]
  | .Expr v _ => [v]
  | _ => []
def suS (s : Stmt) : List Stmt := match s with
  | .For _ _ b o _ => b ++ o
  | .While _ b o _ => b ++ o
  | .If _ b o _ => b ++ o
  | _ => []
def noE : Expr := .Name "" ⟨0, 0, 0, 0⟩
def atE (e : Expr) (i : Nat) : Expr := (chE e).getD i noE
def atS (s : Stmt) (i : Nat) : Expr := (chS s).getD i noE
def inS (ss : List Stmt) (i : Nat) : Stmt := ss.getD i (.Pass ⟨0, 0, 0, 0⟩)
def lamW (q : Str) (e : Expr) : LW := match e with
  | .Lambda a b s _ => ⟨q, a, b, s⟩
  | e => ⟨q, { posonlyargs := [], args := [], vararg := none, kwonlyargs := [], kw_defaults := [], kwarg := none, defaults := [] }, e, { kind := .function, names := [], isGenerator := false, isCoroutine := false }⟩
/-- the name that lambdas of the def x bear -/
def qLam (x : Str) (st : Stmt) : Str := (PyProof.Rows.envOfC x (defScope st) 0 0 .none).qual ++ "<lambda>"
section
variable {P : Program} {w : World} {K : PySem.W.Frag} {mg : Str → Option Value} {base : Heap} {g : Gm}
/-- what the top has of the table of a def that makes lambdas: its code object cc, the table P -/
structure LamT (mg : Str → Option Value) (base : Heap) (g : Gm) (q : Str) (fd : FuncData) : Prop where
  ex : ∃ (cc P : Addr), fd.code = .ref cc ∧ LamX.TabB base mg cc P ∧ (P, q) ∈ g.T ∧ ∀ p ∈ g.T, p.1 = P → p.2 = q
/-- a def that makes lambdas, by its body -/
theorem fng_dL {x : Str} {st : Stmt} {f : Addr} {fd : FuncData} {N ps : List Str} {k : Nat} {body : SS} (F : L2.Fun K x x st f fd) (S : FnScope N ps (defScope st))
    (hb : ∀ (cdv : Value) (A : Around) (outer : List Env) (s : Shared) (H : Hp) (E : XK), fd.code = cdv → A.guards = some [] → Room k (A.deeper (PyProof.Rows.envOfC x (defScope st) s.heap.objs.size f cdv)) →
      DSs (cxOf (L2.CX P w) P w K mg base N x (defScope st) f cdv A outer s H E) g (fun c d _ H => E c d H) (defBody st) body) : FnG P w K mg base (k + 1) f fd ps (spD K g ps.length (defF N.length body)) := by
  obtain ⟨oc, od, kV, doc, pm, an, cdv0, ct, osl, e, lk, hcd⟩ := F.ex
  refine ⟨fun vs H Q E ⟨ρ, M, ds, _, r, l, _⟩ => by rw [r.length, l], fun A outer s H args us vs Q E hg hr e0 hbd rv sp => ?_⟩
  subst e
  have l2 : vs.length = ps.length := by
    obtain ⟨ρ, M, ds, _, r, l, _⟩ := sp
    rw [r.length, l]
  have hin : K.In s.heap := e0.mod.kin.keeps fun b o e => (e0.bs b o e).1
  have cells : ∀ y ∈ ps.zip us, (defScope st).names.lookup y.1 = some .local ∨ ((defScope st).names.lookup y.1 = some .cell ∧ ((cellsFrom (s.heap.objs.size + 1) (defScope st).names []).lookup y.1).isSome = true) := fun ⟨n, v⟩ hy =>
    (S.par n (List.of_mem_zip hy).1).imp id fun q => ⟨q, PySem.W.cellsFrom_some _ _ _ (.inl q)⟩
  refine codeAny_call_function hr.depth (hin _ _ lk) rfl S.co S.gen rfl (PySem.W.codeRec_of hin hcd) (hbd _ _ _ _ (wpAny_newFunctionEnv_cells S.kind cells fun env he s1 xi => ?_))
  subst he
  have sub : ∀ b o, base.get? b = some o → s.heap.get? b = some o := fun b o e => (e0.bs b o e).1
  refine ⟨(e0.mod.nolimit.keeps sub).keeps xi.toInCall.keep, codeAny_func ?_⟩
  have bd := hb cdv0 A outer s H E rfl hg (hr.deeper _)
  obtain ⟨ρ, M, ds, mr, r, l, h⟩ := sp
  refine wpAny_mono (bd.pss.run [] s1 (L2.start N vs) H { nx := fun _ H' => Q .non H', rt := Q } (inv_start S hr.hd e0 l2 rv xi) ⟨ρ, startD N.length ds, M, mr, sr_start r, ?_⟩) (fun fl s' hs => ?_) fun e s' hs => hs
  · unfold defF at h
    have key : ∀ (d : D) (M' : Mem), rOk K g (RV K g) (fun c d _ H => E c d H) ρ M [] H (.ok d (dropM M d M')) Q → ∀ ρ' v H', Ext ρ M H ρ' M' H' → MR K g ρ' M' H' → RV K g ρ' H' d v → Q v H' := fun d M' h ρ' v H' x m r => by
      obtain ⟨ρ2, x2, m2, r2⟩ := drop_ok mr x m r
      exact h ρ2 v H' x2 m2 r2
    cases e : body (startD N.length ds) M with
    | nx δ M' => rw [e] at h; exact fun ρ' σ' H' x m _ => key .non M' h ρ' .non H' x m (by rw [rv_non])
    | rt d M' => rw [e] at h; exact key d M' h
    | ex y δ M' => rw [e] at h; exact fun ρ' cls dx σ' H' x m _ r => h ρ' cls dx H' x m r
    | bk δ M' => rw [e] at h; exact h.elim
    | ct δ M' => rw [e] at h; exact h.elim
    | no => rw [e] at h; exact h.elim
  · have out : ∀ {σ' : L2.St} {H' : Hp} {v : V} {u : Value}, Inv (cxOf (L2.CX P w) P w K mg base N x (defScope st) f cdv0 A outer s H E) [] σ' H' s' → RelV v u → Q v H' → CE outer P w H s Q u s' :=
      fun {σ' H' v u} J q1 q2 => ⟨v, H', J.os, J.bare, J.base, J.hok, q1, q2⟩
    cases fl with
    | ret u => obtain ⟨v, σ', H', J, q1, q2⟩ := hs; exact out J q1 q2
    | next => obtain ⟨σ', H', J, q2⟩ := hs; exact out (v := V.non) (u := Value.none) J rfl q2
    | brk => obtain ⟨_, _, _, q⟩ := hs; exact q.elim
    | cont => obtain ⟨_, _, _, q⟩ := hs; exact q.elim
theorem cl_ofL {x : Str} {st : Stmt} {f : Addr} {fd : FuncData} {N ps : List Str} {k i : Nat} {body : SS} (F : L2.Fun K x x st f fd) (S : FnScope N ps (defScope st)) (hg : g.fa i = some f) (hm : mg x = some (.ref f)) (b : Binds K fd ps [])
    (hb : ∀ (cdv : Value) (A : Around) (outer : List Env) (s : Shared) (H : Hp) (E : XK), fd.code = cdv → A.guards = some [] → Room k (A.deeper (PyProof.Rows.envOfC x (defScope st) s.heap.objs.size f cdv)) →
      DSs (cxOf (L2.CX P w) P w K mg base N x (defScope st) f cdv A outer s H E) g (fun c d _ H => E c d H) (defBody st) body) : Cl P w K mg base g (k + 1) i x ps.length (defF N.length body) :=
  ⟨f, fd, ps, hg, fng_dL F S hb, hm, F.kp, b⟩
/-- a clause by its class -/
theorem MetH.of {X : Cx} {i c : Nat} {n x : Str} {fs : List Str} {e : Expr} {h : HH} {np pq rp : Pos} {hds : List ExceptHandler} {l : List (Nat × HH)} (xc : Xcl X.prog X.w X.K X.mg X.base g c x fs) (hg : Gl X x) (hE : DX X g i e h) (r : MetH X g i n hds l)
    (hdb : (x == ("__debug__" : Str)) = false := by decide) : MetH X g i n (.ExceptHandler (some (.Name x np)) (some n) [.Return (some e) rp] pq :: hds) ((c, h) :: l) := by
  obtain ⟨C, fI, fd, hC, hm, _⟩ := xc.ex
  exact .cons ⟨hg, hdb, .inl hm⟩ hC hE r
/-- what OexC asks of the class's own object, as one test -/
def oexB (K : PySem.W.Frag) (C : Addr) : Bool := match K.lookup C with
  | some ⟨.type "type", _, .cls cd, sl⟩ => (match cd.mro, sl.toList with
    | .ref C' :: bm, [_, _, _, _, some (.builtin n), _] => C' == C && (n == "ValueError.__new__") && !cd.hasDel && cd.hasDict && PySem.HandSPX.refsVE bm
    | _, _ => false)
  | _ => false
theorem oexB_of {C : Addr} (q : oexB K C = true) : ∃ nm q N bs bm sn sub ab col dd k0 k1 k2 k3 k5, K.lookup C = some (excClassObj nm q C N bs bm true sn sub ab col dd k0 k1 k2 k3 k5 "ValueError.__new__") ∧ PySem.HandSPX.refsVE bm = true := by
  unfold oexB at q
  split at q
  · rename_i dd cd sl ho
    split at q
    · rename_i C' bm k0 k1 k2 k3 n k5 hm hs
      simp only [Bool.and_eq_true, beq_iff_eq, Bool.not_eq_true'] at q
      obtain ⟨⟨⟨⟨rfl, rfl⟩, hdel⟩, hd⟩, ht⟩ := q
      obtain ⟨nm, bs, mro, ns, qn, hd1, sn, sub, ab, col, del⟩ := cd
      dsimp only at hm hdel hd
      subst hm hdel hd
      have hsl : sl = #[k0, k1, k2, k3, some (.builtin "ValueError.__new__"), k5] := by
        obtain ⟨l⟩ := sl
        simp only at hs
        rw [hs]
      subst hsl
      exact ⟨nm, qn, ns, bs, bm, sn, sub, ab, col, dd, k0, k1, k2, k3, k5, ho, ht⟩
    · cases q
  · cases q
/-- an exception class from what the top has -/
theorem xcl_of {c : Nat} {x : Str} {fs : List Str} {C fI : Addr} {fd : FuncData} (hC : g.ca c = some C) (hm : mg x = some (.ref C)) (o : OexC K C) (xf : xfB K C = true) (hno : (fs.all fun f => decide (PySem.W.findIn K (.ref C) f = some none)) = true) (iC : PySem.W.findIn K (.ref C) "__init__" = some (some (.ref fI)))
    (tI : PySem.W.typeIn K (.ref fI) = some (.type "function")) (F : FnOk P w K mg base (L2.CX P w) 1 fI fd ("self" :: fs) (spInit K fs)) (b : Binds K fd ("self" :: fs) []) : Xcl P w K mg base g c x fs :=
  ⟨C, fI, fd, hC, hm, o, xfB_ok xf, fun f hf => of_decide_eq_true (List.all_eq_true.mp hno f hf), iC, tI, F, b⟩
end
end Dl

set_option Elab.async false
set_option linter.all false
set_option autoImplicit false
set_option maxRecDepth 100000
set_option maxHeartbeats 4000000
/-! The D-layer: the least, the greatest of a list. -/
namespace Dl
open PySem PySem.Spec PyProof.Rows L2
def bestD (lt : PyData → PyData → Bool) (d : D) (r : List D) : D := r.foldl (fun a y => if lt (dP y) (dP a) then y else a) d
def gtP (a b : PyData) : Bool := PySem.W.dataLt b a
def notNone : PyData → Bool
  | .none => false
  | _ => true
theorem dps_map : ∀ {ds : List D} {ps : List PyData}, toPs ds = some ps → ps = ds.map dP
  | [], ps, e => by rw [toPs] at e; cases e; rfl
  | d :: ds, ps, e => by
    rw [toPs] at e
    cases q : toP d with
    | none => rw [q] at e; cases e
    | some p =>
      cases q2 : toPs ds with
      | none => rw [q, q2] at e; cases e
      | some qs =>
        rw [q, q2] at e
        cases e
        rw [List.map_cons, ← dps_map q2, dP, q]
        rfl
def minOk (ds : List D) : Bool := match toPs ds with
  | some ps => alikeDs ps && (ps.all notNone && decide (PyData.depthAll ps ≤ 60))
  | none => false
theorem minOk_ok {ds : List D} (h : minOk ds = true) : ∃ ps, toPs ds = some ps ∧ ps = ds.map dP ∧ PySem.W.AlikeAll (ds.map dP) ∧ PyData.depthAll (ds.map dP) ≤ 60 := by
  unfold minOk at h
  split at h
  · rename_i ps e
    simp only [Bool.and_eq_true, List.all_eq_true, decide_eq_true_eq] at h
    obtain ⟨h1, h2, h3⟩ := h
    have em := dps_map e
    refine ⟨ps, e, em, ?_, em ▸ h3⟩
    rw [← em]
    refine ⟨fun x hx y hy => ?_, fun x hx z => by have := h2 x hx; rw [z] at this; cases this⟩
    unfold alikeDs at h1
    exact List.all_eq_true.mp (List.all_eq_true.mp h1 x hx) y hy
  · cases h
theorem best_ix (lt : PyData → PyData → Bool) (d : D) (r : List D) : (d :: r)[argBest (fun i j => lt ((d :: r).map dP |>.getD i .none) ((d :: r).map dP |>.getD j .none)) r.length]? = some (bestD lt d r) := by
  have key : ∀ (k : Nat), k ≤ r.length → argBest (fun i j => lt ((d :: r).map dP |>.getD i .none) ((d :: r).map dP |>.getD j .none)) k ≤ k ∧ (d :: r)[argBest (fun i j => lt ((d :: r).map dP |>.getD i .none) ((d :: r).map dP |>.getD j .none)) k]? = some (bestD lt d (r.take k)) := by
    intro k
    induction k with
    | zero => intro _; exact ⟨Nat.le_refl _, rfl⟩
    | succ k ih =>
      intro hk
      obtain ⟨i1, i2⟩ := ih (by omega)
      have hlt : k < r.length := by omega
      have tk : r.take (k + 1) = r.take k ++ [r[k]] := by rw [List.take_add_one, List.getElem?_eq_getElem hlt]; rfl
      have e0 : ((d :: r).map dP).getD (k + 1) .none = dP r[k] := by
        rw [List.getD_eq_getElem?_getD, List.getElem?_map, List.getElem?_cons_succ, List.getElem?_eq_getElem hlt]; rfl
      have e1 : ((d :: r).map dP).getD (argBest (fun i j => lt ((d :: r).map dP |>.getD i .none) ((d :: r).map dP |>.getD j .none)) k) .none = dP (bestD lt d (r.take k)) := by
        rw [List.getD_eq_getElem?_getD, List.getElem?_map, i2]; rfl
      have eb : bestD lt d (r.take (k + 1)) = if lt (dP r[k]) (dP (bestD lt d (r.take k))) then r[k] else bestD lt d (r.take k) := by
        unfold bestD
        rw [tk, List.foldl_append]
        rfl
      rw [eb, argBest]
      simp only [e0, e1]
      split
      · exact ⟨Nat.le_refl _, by rw [List.getElem?_cons_succ, List.getElem?_eq_getElem hlt]⟩
      · exact ⟨by omega, i2⟩
  have := (key r.length (Nat.le_refl _)).2
  rwa [List.take_length] at this
def bestL (lt : PyData → PyData → Bool) : OL := fun ds M => match ds with
  | [x] => match getS M x with
    | some (d :: r) => if minOk (d :: r) then .ok (bestD lt d r) M else .no
    | _ => .no
  | _ => .no
def minL : OL := bestL PySem.W.dataLt
def maxL : OL := bestL gtP
theorem bestL_noex {lt : PyData → PyData → Bool} : NoExL (bestL lt) := by
  intro ds M e M'
  unfold bestL
  repeat' split
  all_goals exact fun z => nomatch z
section
variable {X : Cx} {g : Gm} {σ : L2.St} {H : Hp}
def rBest (K : PySem.W.Frag) (g : Gm) (lt : PyData → PyData → Bool) : List V → Hp → VK → Prop := fun xs H Q => ∃ ρ p d r vs, xs = [.ref p] ∧ SqL K H p vs ∧ RVs K g ρ H (d :: r) vs ∧ minOk (d :: r) = true ∧ ∀ v, RV K g ρ H (bestD lt d r) v → Q v H
theorem cr_min (hc : X.calm = true) (hu : X.A.units + 64 < cLine) : CallR X (.builtin "min") (rBest X.K g PySem.W.dataLt) := by
  rintro pins s σ H xs us Q I rr ⟨ρ, p, d, r, vs, rfl, s1, r1, ok, q⟩
  obtain ⟨u, rfl, rx⟩ := vals1 rr
  cases rx
  obtain ⟨ps, e1, e2, al, dp⟩ := minOk_ok ok
  subst e2
  obtain ⟨its, rv, pl, hz⟩ := I.list s1
  obtain ⟨as, rd⟩ := Dp.readsAll I _ vs its (dps_of r1 e1) rv
  have hl := pl.isList
  have hn : its.toArray.size = r.length + 1 := by
    have h1 := r1.length
    have h2 := rv.length
    simp at h1 ⊢
    omega
  have rd2 : ReadsAll s.heap its.toArray.toList ((d :: r).map dP) as := by simpa using rd
  refine PySem.call_min_walkH (PySem.W.iter_listW (A := X.A.in1) (I.ok.hd hc) hl fun s2 es W st hfp hw hk => ?_)
  refine ⟨_, _, _, _, _, _, _, s.heap, _, rfl, W, st, hfp, by omega, hw, hk, PySem.W.cmpIn_lt (A := X.A.in1) rd2 al (by show X.A.units + 1 + _ < _; omega), fun v s' hP m => ?_⟩
  obtain ⟨h', tk, rfl, hk'⟩ := PySem.W.moved_old es rfl m
  have e3 : its.toArray.size - 1 = r.length := by omega
  rw [e3] at hP
  have bx := best_ix PySem.W.dataLt d r
  obtain ⟨w', a1, a2⟩ := r1.get bx
  obtain ⟨v', b1, b2⟩ := rv.get a1
  have : v' = v := by
    rw [← Array.getElem?_toList] at hP
    have h4 : its[argBest (fun i j => PySem.W.dataLt ((d :: r).map dP |>.getD i .none) ((d :: r).map dP |>.getD j .none)) r.length]? = some v := by simpa using hP
    rw [h4] at b1
    exact (Option.some.inj b1).symm
  subst this
  exact ⟨w', H, I.kept hk', b2, q w' a2⟩
theorem cr_max (hc : X.calm = true) (hu : X.A.units + 64 < cLine) : CallR X (.builtin "max") (rBest X.K g gtP) := by
  rintro pins s σ H xs us Q I rr ⟨ρ, p, d, r, vs, rfl, s1, r1, ok, q⟩
  obtain ⟨u, rfl, rx⟩ := vals1 rr
  cases rx
  obtain ⟨ps, e1, e2, al, dp⟩ := minOk_ok ok
  subst e2
  obtain ⟨its, rv, pl, hz⟩ := I.list s1
  obtain ⟨as, rd⟩ := Dp.readsAll I _ vs its (dps_of r1 e1) rv
  have hl := pl.isList
  have hn : its.toArray.size = r.length + 1 := by
    have h1 := r1.length
    have h2 := rv.length
    simp at h1 ⊢
    omega
  have rd2 : ReadsAll s.heap its.toArray.toList ((d :: r).map dP) as := by simpa using rd
  refine PySem.call_max_walkH (PySem.W.iter_listW (A := X.A.in1) (I.ok.hd hc) hl fun s2 es W st hfp hw hk => ?_)
  refine ⟨_, _, _, _, _, _, _, s.heap, _, rfl, W, st, hfp, by omega, hw, hk, PySem.W.cmpIn_gt (A := X.A.in1) rd2 al (by show X.A.units + 1 + _ < _; omega), fun v s' hP m => ?_⟩
  obtain ⟨h', tk, rfl, hk'⟩ := PySem.W.moved_old es rfl m
  have e3 : its.toArray.size - 1 = r.length := by omega
  rw [e3] at hP
  have bx := best_ix gtP d r
  obtain ⟨w', a1, a2⟩ := r1.get bx
  obtain ⟨v', b1, b2⟩ := rv.get a1
  have : v' = v := by
    rw [← Array.getElem?_toList] at hP
    have h4 : its[argBest (fun i j => gtP ((d :: r).map dP |>.getD i .none) ((d :: r).map dP |>.getD j .none)) r.length]? = some v := by simpa [gtP] using hP
    rw [h4] at b1
    exact (Option.some.inj b1).symm
  subst this
  exact ⟨w', H, I.kept hk', b2, q w' a2⟩
theorem dc_best {lt : PyData → PyData → Bool} {n : String} (cr : CallR X (.builtin n) (rBest X.K g lt)) : DC X g (.builtin n) (bestL lt) := by
  rintro pins s σ H xs us Q I rr ⟨ρ, M, ds, mr, r, h⟩
  unfold bestL at h
  split at h
  · rename_i x
    obtain ⟨v, rfl, r1⟩ := rvs1 r
    split at h
    · rename_i d ds e1
      obtain ⟨p, vs, rfl, s1, q1⟩ := getS_ok mr e1 r1
      split at h
      · rename_i ok
        exact cr pins s σ H _ us Q I rr ⟨ρ, p, d, ds, vs, rfl, s1, q1, ok, fun v rv => h.now mr rv⟩
      · exact h.elim
    · exact h.elim
  · exact h.elim
theorem dc_minL (hc : X.calm = true) (hu : X.A.units + 64 < cLine) : DC X g (.builtin "min") minL := dc_best (cr_min hc hu)
theorem dc_maxL (hc : X.calm = true) (hu : X.A.units + 64 < cLine) : DC X g (.builtin "max") maxL := dc_best (cr_max hc hu)
end
end Dl

set_option Elab.async false
set_option linter.all false
set_option autoImplicit false
set_option maxRecDepth 100000
set_option maxHeartbeats 4000000
/-! The D-layer: dict(pairs) with ints or texts as keys. -/
namespace Dl
noncomputable section
open PySem PySem.Spec PyProof.Rows L2
section
variable {X : Cx} {g : Gm} {K : PySem.W.Frag} {σ : L2.St} {H H' : Hp} {ρ ρ' : List Addr} {M M' : Mem} {pins : List (Addr × Obj)} {s : Shared}
def pairsK : List D → Option (List (Key × D))
  | [] => some []
  | .tup [k, v] :: ds => match keyOf k, pairsK ds with
    | some kk, some r => some ((kk, v) :: r)
    | _, _ => none
  | _ => none
def dictKD : OL := fun ds M => match ds with
  | [d] => match (getS M d).bind pairsK with
    | some l => .ok (.ref M.length) (M ++ [.dK (mergeD l)])
    | none => .no
  | _ => .no
theorem dictKD_noex : NoExL dictKD := by
  intro ds M e M'
  unfold dictKD
  repeat' split
  all_goals exact fun z => nomatch z
theorem foldK_len : ∀ (l acc : List (Key × V)), (mergeK acc l).length ≤ acc.length + l.length
  | [], acc => Nat.le_refl _
  | p :: l, acc => by
    have h1 := foldK_len l (putK acc p.1 p.2)
    have h2 := length_putK acc p.1 p.2
    show (mergeK (putK acc p.1 p.2) l).length ≤ _
    rw [List.length_cons]
    omega
theorem key_ok {k : Key} {u : Value} (r : RelV (kV k) u) : keyIs k u = true := by
  cases k with
  | inl i => obtain ⟨t, rfl⟩ := r; exact keyIs_int i t
  | inr x => obtain ⟨t, rfl⟩ := r; exact keyIs_str x t
/-- a tuple's address, its key as a value, its key, what it holds -/
abbrev QK := Addr × Value × Key × Value
theorem pairsK_ok (I : Inv X pins σ H s) : ∀ {ds : List D} {l : List (Key × D)} {vs : List V}, pairsK ds = some l → RVs X.K g ρ H ds vs →
    ∃ (qs : List QK) (l' : List (Key × V)), vs = qs.map (fun q => V.ref q.1) ∧ KVr X.K g ρ H l l' ∧ KV l' (qs.map fun q => (q.2.2.1, q.2.2.2)) ∧ ∀ q ∈ qs, s.heap.IsTuple q.1 #[q.2.1, q.2.2.2] ∧ (mixKind X.prog X.w).is q.2.2.1 q.2.1 = true
  | [], l, vs, e, r => by
    rw [pairsK] at e
    cases e
    rw [rvs_nil] at r
    subst r
    exact ⟨[], [], rfl, ⟨rfl, by rw [List.map_nil, List.map_nil, rvs_nil]⟩, .nil, fun q hq => by simp at hq⟩
  | d :: ds, l, vs, e, r => by
    rw [rvs_cons] at r
    obtain ⟨v, t, ev, r1, r2⟩ := r
    subst ev
    unfold pairsK at e
    split at e
    · rename_i h0; cases h0
    · rename_i k d' ds' h0
      cases h0
      split at e
      · rename_i kk rr ek er
        cases e
        obtain ⟨qs, l', h1, h2, h3, h4⟩ := pairsK_ok I er r2
        rw [rv_tup] at r1
        obtain ⟨p, ws, ev, hp, rw'⟩ := r1
        obtain ⟨kv, dv, ew, rk, rd⟩ := rvs2 rw'
        subst ew
        have ekv := keyOf_ok rk ek
        subst ekv
        obtain ⟨its, ri, ht, _⟩ := I.tuple (SqT.of hp)
        obtain ⟨u, y, ei, ru, ry⟩ := vals2 ri
        refine ⟨(p, u, kk, y) :: qs, (kk, dv) :: l', by rw [ev, h1]; rfl, ⟨by simp only [List.map_cons]; rw [h2.1], by simp only [List.map_cons]; rw [rvs_cons]; exact ⟨_, _, rfl, rd, h2.2⟩⟩, .cons ⟨rfl, ry⟩ h3, fun q hq => ?_⟩
        rcases List.mem_cons.mp hq with rfl | hq
        · have : IsTup s.heap p #[u, y] := by rw [← ei]; exact ht
          exact ⟨this, key_ok ru⟩
        · exact h4 q hq
      · cases e
    · cases e
theorem dc_dictK (hc : X.calm = true) : DC X g (.type "dict") dictKD := by
  rintro pins s σ H xs us Q I rr ⟨ρ, M, ds, mr, r, h⟩
  unfold dictKD at h
  split at h
  · rename_i d
    obtain ⟨v, rfl, r1⟩ := rvs1 r
    split at h
    · rename_i l el
      cases e1 : getS M d with
      | none => rw [e1] at el; cases el
      | some zs =>
        rw [e1] at el
        have el : pairsK zs = some l := el
        obtain ⟨p, vs, rfl, s1, q1⟩ := getS_ok mr e1 r1
        obtain ⟨qs, l', h1, h2, h3, h4⟩ := pairsK_ok I el q1
        obtain ⟨its, rv, pl, hl⟩ := I.list s1
        obtain ⟨u, rfl, rx⟩ := vals1 rr
        cases rx
        have hits : its = qs.map fun q => Value.ref q.1 := by
          have e : (qs.map fun q => V.ref q.1) = (qs.map (·.1)).map V.ref := by rw [List.map_map]; rfl
          rw [h1, e] at rv
          rw [refs_at rv, List.map_map]
          rfl
        have hln : qs.length ≤ sizeLine := by
          have := hl
          rw [h1] at this
          simpa using this
        have hll : l'.length = qs.length := by rw [KV.length h3, List.length_map]
        obtain ⟨o, n, ho, hcl, hd, hdat⟩ := pl
        have pit : PairItems s.heap its.toArray (fun j => (qs[j]?.map (·.1)).getD 0) (qs.map fun q => (q.2.1, q.2.2.2)) := by
          refine ⟨by rw [hits]; simp, fun j k v hj => ?_⟩
          rw [List.getElem?_map] at hj
          cases eq : qs[j]? with
          | none => rw [eq] at hj; cases hj
          | some q =>
            rw [eq] at hj
            cases hj
            exact ⟨by rw [hits]; simp [eq], .inl (by simpa [eq] using (h4 q (List.mem_of_getElem? eq)).1)⟩
        refine PySem.call_dict_pairs (knd := mixKind X.prog X.w) (kvs := qs.map fun q => (q.2.2.1, q.2.2.2)) (PairArg.list p its.toArray _ _) (I.ok.hd hc) ⟨⟨o, n, ho, hcl, hd, hdat⟩, pit⟩ ⟨by simp, fun i key v hi => ?_⟩ (by simpa using hln) fun h' tk dd hk => ?_
        · have hi' : (qs.map fun q => (q.2.1, q.2.2.2))[i]? = some (key, v) := hi
          rw [List.getElem?_map] at hi'
          cases eq : qs[i]? with
          | none => rw [eq] at hi'; cases hi'
          | some q =>
            rw [eq] at hi'
            cases hi'
            exact ⟨q.2.2.1, by rw [List.getElem?_map, eq]; rfl, (h4 q (List.mem_of_getElem? eq)).2⟩
        · have hb : (s.heap.objs.size == sysModules) = false := beq_eq_false_iff_ne.mpr (Nat.ne_of_gt I.big)
          have hf := I.hok.fresh (Nat.le_refl s.heap.objs.size)
          have km : KV (mergeK [] l') (merged [] (qs.map fun q => (q.2.2.1, q.2.2.2))) := KV.merge h3 .nil
          have I2 := I.laid (t' := tk) (a := s.heap.objs.size) (o := .dK (mergeK [] l')) (fun b o e => hk b o (by simp) e) (Nat.le_refl _)
            ⟨by have := foldK_len l' []; simp at this; omega, hb, _, km, dd⟩
          refine ⟨.ref s.heap.objs.size, _, I2, rfl, ?_⟩
          have x : Ext ρ M H (ρ ++ [s.heap.objs.size]) (M ++ [.dK (mergeD l)]) (upd H s.heap.objs.size (.dK (mergeK [] l'))) := ext_live mr.len hf
          have ro : RO X.K g (ρ ++ [s.heap.objs.size]) (upd H s.heap.objs.size (.dK (mergeK [] l'))) s.heap.objs.size (.dK (mergeD l)) :=
            ⟨_, upd_same, kvr_merge (KVr.mono x.kp x.pre h2) ⟨rfl, by rw [List.map_nil, List.map_nil, rvs_nil]⟩⟩
          refine h _ _ _ x (mr_live mr hf ro) ?_
          rw [rv_ref]
          refine ⟨s.heap.objs.size, ?_, rfl⟩
          rw [← mr.len, List.getElem?_append_right (Nat.le_refl _)]
          simp
    · exact h.elim
  · exact h.elim
end
end
end Dl

set_option Elab.async false
set_option linter.all false
set_option autoImplicit false
set_option maxRecDepth 100000
set_option maxHeartbeats 4000000
/-! The D-layer: the combinators as rewriting rules. -/
namespace Dl
open PySem PySem.Spec L2
section
variable {α β : Type} (δ : Loc) (M : Mem)
@[simp] theorem ev_var (i : Nat) : eVar i δ M = match δ[i]? with
  | some (some d) => .ok d M
  | _ => .no := rfl
@[simp] theorem ev_C (d : D) : eC d δ M = .ok d M := rfl
@[simp] theorem ev_e2 (o : O2) (a b : EE) : e2 o a b δ M = (a δ M).bind fun x M1 => (b δ M1).bind fun y M2 => o x y M2 := by
  exact (show _ = _ from id rfl)
@[simp] theorem ev_e1 (o : D → Mem → Rs D) (a : EE) : e1 o a δ M = (a δ M).bind fun x M1 => o x M1 := rfl
@[simp] theorem ev_nil : aNil δ M = .ok [] M := rfl
@[simp] theorem ev_cons (a : EE) (r : AA) : aCons a r δ M = (a δ M).bind fun x M1 => (r δ M1).bind fun xs M2 => .ok (x :: xs) M2 := rfl
@[simp] theorem ev_tup (as : AA) : eTup as δ M = (as δ M).bind fun ds M => if sz ds.length then .ok (.tup ds) M else .no := rfl
@[simp] theorem ev_lst (fz : Bool) (as : AA) : eLst fz as δ M = (as δ M).bind fun ds M => mkL fz ds M := rfl
@[simp] theorem ev_B (o : OL) (as : AA) : eB o as δ M = (as δ M).bind o := by
  exact (show _ = _ from id rfl)
@[simp] theorem ev_call (n : Nat) (F : FF) (as : AA) : eCall n F as δ M = (as δ M).bind fun ds M1 => if ds.length = n then F ds M1 else .no := rfl
@[simp] theorem ev_if (t : TT') (a b : EE) : eIf t a b δ M = (t δ M).bind fun c M1 => if c then a δ M1 else b δ M1 := rfl
@[simp] theorem ev_and (a b : EE) : eAnd a b δ M = (a δ M).bind fun x M1 => match x with
  | .bl false => .ok (.bl false) M1
  | .bl true => b δ M1
  | _ => .no := by
  unfold eAnd
  congr 1
  funext x M1
  cases x <;> try rfl
  rename_i c
  cases c <;> rfl
@[simp] theorem ev_tBl (m : EE) : tBl m δ M = (m δ M).bind fun d M => match d with
  | .bl b => .ok b M
  | _ => .no := by
  unfold tBl tOf
  congr 1
  funext x M1
  cases x <;> rfl
@[simp] theorem ev_tTru (m : EE) : tTru m δ M = (m δ M).bind fun d M => ofO (truD M d) M := rfl
@[simp] theorem ev_bAnd (t u : TT') : bAnd t u δ M = (t δ M).bind fun c M1 => if c then u δ M1 else .ok false M1 := rfl
@[simp] theorem ev_bOr (t u : TT') : bOr t u δ M = (t δ M).bind fun c M1 => if c then .ok true M1 else u δ M1 := rfl
@[simp] theorem ev_bNot (t : TT') : bNot t δ M = (t δ M).bind fun c M1 => .ok (!c) M1 := rfl
@[simp] theorem ev_yes : tYes' δ M = .ok true M := rfl
@[simp] theorem ev_seq (s t : SS) : sSeq s t δ M = match s δ M with
  | .nx δ' M' => t δ' M'
  | r => r := rfl
@[simp] theorem ev_nx : sNx δ M = .nx δ M := rfl
@[simp] theorem ev_sno : sNo δ M = .no := rfl
@[simp] theorem ev_expr (m : EE) : sExpr m δ M = (m δ M).stm δ fun _ M' => .nx δ M' := rfl
@[simp] theorem ev_ret (m : EE) : sRet m δ M = (m δ M).stm δ fun d M' => .rt d M' := rfl
@[simp] theorem ev_sif (c : TT') (s t : SS) : sIf c s t δ M = (c δ M).stm δ fun b M' => if b then s δ M' else t δ M' := rfl
@[simp] theorem ev_gN (i : Nat) (d : D) : gN i d δ M = .ok (δ.set i (some d)) M := rfl
@[simp] theorem ev_asg (m : EE) (g : GG) : sAsg m g δ M = (m δ M).stm δ fun d M1 => nxO (g d δ M1) := rfl
@[simp] theorem ev_gSub (mo mi : EE) (d : D) : gSubD mo mi d δ M = (mo δ M).bind fun o M1 => (mi δ M1).bind fun i M2 => match setD o i d M2 with
  | some M3 => .ok δ M3
  | none => .no := rfl
@[simp] theorem ev_par (i j : Nat) (as : AA) : sPar i j as δ M = (as δ M).stm δ fun ds M1 => match ds with
  | [d, e] => .nx ((δ.set i (some d)).set j (some e)) M1
  | _ => .no := rfl
@[simp] theorem ev_par3 (i j l : Nat) (as : AA) : sPar3 i j l as δ M = (as δ M).stm δ fun ds M1 => match ds with
  | [d, e, f] => .nx (((δ.set i (some d)).set j (some e)).set l (some f)) M1
  | _ => .no := rfl
@[simp] theorem ev_aug (i : Nat) (o : O2) (m : EE) : sAug i o m δ M = match δ[i]? with
  | some (some x) => (m δ M).stm δ fun y M1 => (o x y M1).stm δ fun z M2 => .nx (δ.set i (some z)) M2
  | _ => .no := rfl
@[simp] theorem ev_for (src : AA) (g : GG) (b : SS) : sFor src g b δ M = (src δ M).stm δ fun items M1 => forL g b items δ M1 := rfl
@[simp] theorem ev_lc (fz : Bool) (src : AA) (gm : GG) (tt : TT') (el : EE) (own : List Nat) : eLc fz src gm tt el own δ M = (src δ M).bind fun items M1 => (compL gm tt el (wipeD δ own) items M1 []).bind fun ys M2 => mkL fz ys M2 := rfl
@[simp] theorem ev_aOf (f : D → Mem → Option (List D)) (m : EE) : aOf f m δ M = (m δ M).bind fun d M => ofO (f d M) M := by
  exact (show _ = _ from id rfl)
@[simp] theorem ev_aRng (f : List D → Option (List D)) (as : AA) : aRng f as δ M = (as δ M).bind fun ds M => ofO (f ds) M := by
  exact (show _ = _ from id rfl)
@[simp] theorem ev_aArg (f : List D → Mem → Option (List D)) (as : AA) : aArg f as δ M = (as δ M).bind fun ds M => ofO (f ds M) M := by
  exact (show _ = _ from id rfl)
@[simp] theorem ev_fz (m : EE) : eFz m δ M = (m δ M).bind fun d M1 => fzM d M1 := rfl
@[simp] theorem ev_slice (fz : Bool) (m : EE) (l h : OO) : eSlice fz m l h δ M = (m δ M).bind fun x M1 => (l δ M1).bind fun lo M2 => (h δ M2).bind fun hi M3 => sliceD fz x lo hi M3 := rfl
@[simp] theorem ev_oNo : oNo δ M = .ok none M := rfl
@[simp] theorem ev_oSome (m : EE) : oSome m δ M = (m δ M).bind fun d M => match d with
  | .int i => .ok (some i) M
  | _ => .no := rfl
@[simp] theorem ev_BM (op : OM) (mo : EE) (as : AA) : eBM op mo as δ M = (mo δ M).bind fun o M1 => match getL M1 o with
  | some _ => (as δ M1).bind fun ds M2 => op o ds M2
  | none => .no := rfl
@[simp] theorem ev_dn (tk : Bool) : eDn tk δ M = .ok (.ref M.length) (M ++ [dEmp tk]) := rfl
@[simp] theorem ev_listR1 (fz : Bool) (m : EE) : eListR1 fz m δ M = (m δ M).bind fun d M1 => match d with
  | .int n => listRg fz 0 n M1
  | _ => .no := by
  exact (show _ = _ from id rfl)
@[simp] theorem ev_gTup (gs : List D → Loc → Mem → Rs Loc) (ds : List D) : gTupD gs (.tup ds) δ M = gs ds δ M := rfl
@[simp] theorem ev_gsNil : gsNil [] δ M = .ok δ M := rfl
@[simp] theorem ev_gsCons (m : GG) (ms : List D → Loc → Mem → Rs Loc) (d : D) (ds : List D) : gsCons m ms (d :: ds) δ M = (m d δ M).bind fun δ' M' => ms ds δ' M' := rfl
@[simp] theorem ev_dc (tk : Bool) (src : AA) (gm : GG) (tt : TT') (kx vx : EE) (own : List Nat) : eDc tk src gm tt kx vx own δ M = (src δ M).bind fun items M1 => (compD gm tt kx vx (wipeD δ own) items M1 (dEmp tk)).bind fun o M2 => .ok (.ref M2.length) (M2 ++ [o]) := rfl
/-! operations -/
@[simp] theorem ev_addI (fz : Bool) (i j : Int) : addD fz (.int i) (.int j) M = .ok (.int (i + j)) M := rfl
@[simp] theorem ev_iOp (c : Int → Int → Bool) (f : Int → Int → D) (i j : Int) : iOp c f (.int i) (.int j) M = if c i j then .ok (f i j) M else .no := rfl
@[simp] theorem ev_sub (i j : Int) : subD (.int i) (.int j) M = .ok (.int (i - j)) M := rfl
@[simp] theorem ev_mod (i j : Int) : modD (.int i) (.int j) M = if 0 < j then .ok (.int (i % j)) M else .no := by simp [modD, iOp]
@[simp] theorem ev_fdiv (i j : Int) : fdivD (.int i) (.int j) M = if 0 < j ∧ j < 1073741824 then .ok (.int (i / j)) M else .no := by simp [fdivD, iOp]
@[simp] theorem ev_pow (i j : Int) : powD (.int i) (.int j) M = if 0 ≤ j ∧ j ≤ 1000000 ∧ i.natAbs < 2 ^ 64 then .ok (.int (i ^ j.toNat)) M else .no := by simp [powD, iOp]
theorem ev_mulI (fz : Bool) (i j : Int) (h : small i = true ∨ small j = true) : mulD fz (.int i) (.int j) M = .ok (.int (i * j)) M := by
  unfold mulD
  simp [h]
@[simp] theorem ev_gt (i j : Int) : gtD (.int i) (.int j) M = .ok (.bl (decide (j < i))) M := rfl
@[simp] theorem ev_ge (i j : Int) : geD (.int i) (.int j) M = .ok (.bl (decide (j ≤ i))) M := rfl
@[simp] theorem ev_le (i j : Int) : leD (.int i) (.int j) M = .ok (.bl (decide (i ≤ j))) M := rfl
@[simp] theorem ev_lt (i j : Int) : ltD (.int i) (.int j) M = .ok (.bl (decide (i < j))) M := rfl
@[simp] theorem ev_int (i : Int) : intD [.int i] M = .ok (.int i) M := rfl
@[simp] theorem ev_abs (i : Int) : absD [.int i] M = .ok (.int (if i < 0 then -i else i)) M := rfl
@[simp] theorem ev_min2 (i j : Int) : min2D [.int i, .int j] M = .ok (.int (if j < i then j else i)) M := rfl
@[simp] theorem ev_max2 (i j : Int) : max2D [.int i, .int j] M = .ok (.int (if j > i then j else i)) M := rfl
@[simp] theorem ev_lenL (ds : List D) : lenD [.lst ds] M = .ok (.int ds.length) M := rfl
@[simp] theorem ev_lenT (ds : List D) : lenD [.tup ds] M = .ok (.int ds.length) M := rfl
@[simp] theorem ev_lenS (ns : List Int) : lenD [.scr ns] M = .ok (.int ns.length) M := by simp [lenD, getQ, getS]
@[simp] theorem ev_tupL (ds : List D) : tupleD [.lst ds] M = .ok (.tup ds) M := rfl
@[simp] theorem ev_tupT (ds : List D) : tupleD [.tup ds] M = .ok (.tup ds) M := rfl
@[simp] theorem nxO_no : nxO (.no : Rs Loc) = .no := rfl
@[simp] theorem stm_no {α : Type} (δ : Loc) (k : α → Mem → Rt) : (Rs.no : Rs α).stm δ k = .no := rfl
theorem atI_nat {α : Type} (l : List α) (i : Nat) : L2.atI l (i : Int) = l[i]? := by
  unfold L2.atI ixN
  by_cases h : i < l.length
  · simp [h, seqIndex?]
  · simp [h, seqIndex?]
theorem atI_pos {α : Type} (l : List α) {i : Int} (h : 0 ≤ i) : L2.atI l i = l[i.toNat]? := by
  obtain ⟨n, rfl⟩ := Int.eq_ofNat_of_zero_le h
  exact atI_nat l n
@[simp] theorem ev_ixT (ds : List D) (i : Int) : ixD (.tup ds) (.int i) M = ofO (L2.atI ds i) M := rfl
@[simp] theorem ev_ixL (ds : List D) (i : Int) : ixD (.lst ds) (.int i) M = ofO (L2.atI ds i) M := rfl
theorem mkL_true (ds : List D) (h : ds.length ≤ sizeLine) : mkL true ds M = .ok (.lst ds) M := by
  unfold mkL
  rw [if_pos (by simpa [sz] using h), if_pos rfl]
theorem mkL_false (ds : List D) (h : ds.length ≤ sizeLine) : mkL false ds M = .ok (.ref M.length) (M ++ [.lst ds]) := by
  unfold mkL
  rw [if_pos (by simpa [sz] using h)]
  rfl
theorem sz_of {n : Nat} (h : n ≤ 1000000) : sz n = true := by
  have := sizeLine_eq
  simp [sz]
  omega
end
/-! ### loops -/
/-- a loop over a list, by an invariant: Inv i δ M ahead of the i-th item -/
theorem forL_inv {gm : GG} {body : SS} {items : List D} (Inv : Nat → Loc → Mem → Prop) {δ : Loc} {M : Mem} (h0 : Inv 0 δ M)
    (hs : ∀ i d δ M, items[i]? = some d → Inv i δ M → ∃ δ1 M1 δ2 M2, gm d δ M = .ok δ1 M1 ∧ body δ1 M1 = .nx δ2 M2 ∧ Inv (i + 1) δ2 M2) :
    ∃ δ' M', forL gm body items δ M = .nx δ' M' ∧ Inv items.length δ' M' := by
  have key : ∀ (k : Nat) (δ : Loc) (M : Mem), k ≤ items.length → Inv k δ M → ∃ δ' M', forL gm body (items.drop k) δ M = .nx δ' M' ∧ Inv items.length δ' M' := by
    intro k
    induction hk : items.length - k generalizing k with
    | zero =>
      intro δ M h1 h2
      have : k = items.length := by omega
      subst this
      rw [List.drop_length]
      exact ⟨δ, M, rfl, h2⟩
    | succ n ih =>
      intro δ M h1 h2
      have hlt : k < items.length := by omega
      rw [List.drop_eq_getElem_cons hlt]
      obtain ⟨δ1, M1, δ2, M2, e1, e2, h3⟩ := hs k items[k] δ M (List.getElem?_eq_getElem hlt) h2
      obtain ⟨δ', M', e3, h4⟩ := ih (k + 1) (by omega) δ2 M2 hlt h3
      refine ⟨δ', M', ?_, h4⟩
      rw [forL, e1]
      simp only [e2]
      exact e3
  exact key 0 δ M (Nat.zero_le _) h0
/-- a comprehension without change of memory -/
theorem compL_map {gm : GG} {tt : TT'} {el : EE} {δ : Loc} {M : Mem} : ∀ {items : List D} {acc : List D} (f : D → D), acc.length + items.length ≤ 1000000 →
    (∀ d ∈ items, ∃ δ1, gm d δ M = .ok δ1 M ∧ tt δ1 M = .ok true M ∧ el δ1 M = .ok (f d) M) → compL gm tt el δ items M acc = .ok (acc ++ items.map f) M
  | [], acc, f, _, _ => by simp [compL]
  | d :: items, acc, f, hl, h => by
    obtain ⟨δ1, e1, e2, e3⟩ := h d List.mem_cons_self
    rw [List.length_cons] at hl
    rw [compL, e1, Rs.bindN_ok, e2, Rs.bindN_ok, if_pos rfl, e3, Rs.bindN_ok, if_pos (by have := sizeLine_eq; simp; omega),
      compL_map (acc := acc ++ [f d]) f (by simp; omega) fun d' hd' => h d' (List.mem_cons_of_mem _ hd')]
    simp
theorem compL_filter {gm : GG} {tt : TT'} {el : EE} {δ : Loc} {M : Mem} : ∀ {items : List D} {acc : List D} (p : D → Bool) (f : D → D), acc.length + items.length ≤ 1000000 →
    (∀ d ∈ items, ∃ δ1, gm d δ M = .ok δ1 M ∧ tt δ1 M = .ok (p d) M ∧ (p d = true → el δ1 M = .ok (f d) M)) → compL gm tt el δ items M acc = .ok (acc ++ (items.filter p).map f) M
  | [], acc, p, f, _, _ => by simp [compL]
  | d :: items, acc, p, f, hl, h => by
    obtain ⟨δ1, e1, e2, e3⟩ := h d List.mem_cons_self
    rw [List.length_cons] at hl
    rw [compL, e1, Rs.bindN_ok, e2, Rs.bindN_ok]
    cases hp : p d with
    | false =>
      rw [if_neg Bool.false_ne_true, compL_filter (acc := acc) p f (by omega) fun d' hd' => h d' (List.mem_cons_of_mem _ hd')]
      simp [List.filter_cons, hp]
    | true =>
      rw [if_pos rfl, e3 hp, Rs.bindN_ok, if_pos (by have := sizeLine_eq; simp; omega), compL_filter (acc := acc ++ [f d]) p f (by simp; omega) fun d' hd' => h d' (List.mem_cons_of_mem _ hd')]
      simp [List.filter_cons, hp]
/-- a comprehension by an invariant of memory and results -/
theorem compL_inv {gm : GG} {tt : TT'} {el : EE} {δ : Loc} {items : List D} (Inv : Nat → Mem → List D → Prop) {M : Mem} (h0 : Inv 0 M []) (hl : items.length ≤ 1000000)
    (hs : ∀ i d M acc, items[i]? = some d → Inv i M acc → ∃ δ1 M1 b M2, gm d δ M = .ok δ1 M1 ∧ tt δ1 M1 = .ok b M2 ∧ (b = false → Inv (i + 1) M2 acc) ∧ (b = true → ∃ y M3, el δ1 M2 = .ok y M3 ∧ Inv (i + 1) M3 (acc ++ [y]))) :
    ∃ ys M', compL gm tt el δ items M [] = .ok ys M' ∧ Inv items.length M' ys ∧ ys.length ≤ items.length := by
  have key : ∀ (n k : Nat) (M : Mem) (acc : List D), items.length - k = n → k ≤ items.length → acc.length ≤ k → Inv k M acc → ∃ ys M', compL gm tt el δ (items.drop k) M acc = .ok ys M' ∧ Inv items.length M' ys ∧ ys.length ≤ items.length := by
    intro n
    induction n with
    | zero =>
      intro k M acc hk h1 ha h2
      have : k = items.length := by omega
      subst this
      rw [List.drop_length, compL]
      exact ⟨acc, M, rfl, h2, ha⟩
    | succ n ih =>
      intro k M acc hk h1 ha h2
      have hlt : k < items.length := by omega
      rw [List.drop_eq_getElem_cons hlt]
      obtain ⟨δ1, M1, b, M2, e1, e2, h3, h4⟩ := hs k items[k] M acc (List.getElem?_eq_getElem hlt) h2
      rw [compL, e1, Rs.bindN_ok, e2, Rs.bindN_ok]
      cases b with
      | false =>
        rw [if_neg Bool.false_ne_true]
        exact ih (k + 1) M2 acc (by omega) hlt (by omega) (h3 rfl)
      | true =>
        obtain ⟨y, M3, e3, h5⟩ := h4 rfl
        rw [if_pos rfl, e3, Rs.bindN_ok, if_pos (by have := sizeLine_eq; simp; omega)]
        exact ih (k + 1) M3 (acc ++ [y]) (by omega) hlt (by simp; omega) h5
  exact key items.length 0 M [] rfl (Nat.zero_le _) (Nat.zero_le _) h0
end Dl

set_option Elab.async false
set_option linter.all false
set_option autoImplicit false
set_option maxRecDepth 100000
set_option maxHeartbeats 4000000
/-! Webs as data: ties, comparisons, sorting, sums. -/
namespace Dl
open PySem PySem.Spec L2
abbrev Tie := Nat × Nat
def tieD (t : Tie) : D := .tup [.int t.1, .int t.2]
def webD (n : Nat) (ts : List Tie) : D := .tup [.int n, .tup (ts.map tieD)]
def tlt (s t : Tie) : Prop := s.1 < t.1 ∨ (s.1 = t.1 ∧ s.2 < t.2)
instance (s t : Tie) : Decidable (tlt s t) := inferInstanceAs (Decidable (_ ∨ _))
structure Web (n : Nat) (ts : List Tie) : Prop where
  ok : ∀ t ∈ ts, t.1 ≤ t.2 ∧ t.2 < n
  srt : ts.Pairwise tlt
theorem tlt_trans {a b c : Tie} (h : tlt a b) (k : tlt b c) : tlt a c := by unfold tlt at *; omega
theorem tlt_irrefl {a : Tie} : ¬ tlt a a := by unfold tlt; omega
theorem tlt_asymm {a b : Tie} (h : tlt a b) : ¬ tlt b a := by unfold tlt at *; omega
theorem tie_ext {a b : Tie} (h1 : ¬ tlt a b) (h2 : ¬ tlt b a) : a = b := by
  obtain ⟨x, y⟩ := a
  obtain ⟨z, w⟩ := b
  unfold tlt at *
  simp only [Prod.mk.injEq]
  simp only at h1 h2
  omega
theorem tieD_inj {a b : Tie} (h : tieD a = tieD b) : a = b := by
  obtain ⟨x, y⟩ := a
  obtain ⟨z, w⟩ := b
  simp [tieD] at h
  simp only [Prod.mk.injEq]
  omega
/-! ### as plain data -/
def tieP (t : Tie) : PyData := .tuple [.int t.1, .int t.2]
theorem toP_tie (t : Tie) : toP (tieD t) = some (tieP t) := by simp [tieD, tieP, toP, toPs]
theorem dP_tie (t : Tie) : dP (tieD t) = tieP t := by rw [dP, toP_tie]; rfl
theorem toPs_ties : ∀ ts : List Tie, toPs (ts.map tieD) = some (ts.map tieP)
  | [] => by rw [List.map_nil, toPs]; rfl
  | t :: ts => by rw [List.map_cons, toPs, toP_tie, toPs_ties ts]; rfl
theorem toPs_ints : ∀ ns : List Int, toPs (ns.map D.int) = some (ns.map PyData.int)
  | [] => by rw [List.map_nil, toPs]; rfl
  | t :: ts => by rw [List.map_cons, toPs, toPs_ints ts, toP]; rfl
theorem shaped_int (i : Int) : SeqAt.shaped (.int i) = true := by
  show ((PyData.int i).canLay0 && decide ((PyData.int i).depth ≤ 64)) = true
  simp [PyData.canLay0, PyData.depth]
theorem shaped_str (s : Str) (h : PyData.strOk s = true) : SeqAt.shaped (.str s) = true := by
  show ((PyData.str s).canLay0 && decide ((PyData.str s).depth ≤ 64)) = true
  simp [PyData.canLay0, PyData.depth, h]
theorem tieP_lay (t : Tie) : (tieP t).canLay0 = true := by simp [tieP, PyData.canLay0, PyData.canLayAll0]
theorem tieP_depth (t : Tie) : (tieP t).depth = 1 := by simp [tieP, PyData.depth, PyData.depthAll]
theorem shaped_tie (t : Tie) : SeqAt.shaped (tieP t) = true := by
  show ((tieP t).canLay0 && decide ((tieP t).depth ≤ 64)) = true
  rw [tieP_lay, tieP_depth]; rfl
theorem ints_lay : ∀ ns : List Int, PyData.canLayAll0 (ns.map PyData.int) = true
  | [] => by simp [PyData.canLayAll0]
  | n :: ns => by simp [PyData.canLayAll0, PyData.canLay0, ints_lay ns]
theorem ints_depth : ∀ ns : List Int, PyData.depthAll (ns.map PyData.int) ≤ 1
  | [] => by simp [PyData.depthAll]
  | n :: ns => by
    have := ints_depth ns
    simp [PyData.depthAll, PyData.depth]
    omega
theorem ties_lay : ∀ ns : List Tie, PyData.canLayAll0 (ns.map tieP) = true
  | [] => by simp [PyData.canLayAll0]
  | n :: ns => by simp [PyData.canLayAll0, tieP_lay, ties_lay ns]
theorem ties_depth : ∀ ns : List Tie, PyData.depthAll (ns.map tieP) ≤ 2
  | [] => by simp [PyData.depthAll]
  | n :: ns => by
    have := ties_depth ns
    have := tieP_depth n
    simp [PyData.depthAll]
    omega
theorem shaped_ints (ns : List Int) : SeqAt.shaped (.list (ns.map PyData.int)) = true ∧ SeqAt.shaped (.tuple (ns.map PyData.int)) = true := by
  have h1 := ints_lay ns
  have h2 := ints_depth ns
  constructor
  · show ((PyData.list (ns.map PyData.int)).canLay0 && decide ((PyData.list (ns.map PyData.int)).depth ≤ 64)) = true
    simp only [PyData.canLay0, PyData.depth, h1, Bool.true_and]
    exact decide_eq_true (by omega)
  · show ((PyData.tuple (ns.map PyData.int)).canLay0 && decide ((PyData.tuple (ns.map PyData.int)).depth ≤ 64)) = true
    simp only [PyData.canLay0, PyData.depth, h1, Bool.true_and]
    exact decide_eq_true (by omega)
theorem shaped_ties (ns : List Tie) : SeqAt.shaped (.list (ns.map tieP)) = true ∧ SeqAt.shaped (.tuple (ns.map tieP)) = true := by
  have h1 := ties_lay ns
  have h2 := ties_depth ns
  constructor
  · show ((PyData.list (ns.map tieP)).canLay0 && decide ((PyData.list (ns.map tieP)).depth ≤ 64)) = true
    simp only [PyData.canLay0, PyData.depth, h1, Bool.true_and]
    exact decide_eq_true (by omega)
  · show ((PyData.tuple (ns.map tieP)).canLay0 && decide ((PyData.tuple (ns.map tieP)).depth ≤ 64)) = true
    simp only [PyData.canLay0, PyData.depth, h1, Bool.true_and]
    exact decide_eq_true (by omega)
theorem eqv_int (i j : Int) : PyData.eqv (.int i) (.int j) = decide (i = j) := by
  rw [PyData.eqv]
  by_cases h : i = j <;> simp [h]
theorem eqv_str (i j : Str) : PyData.eqv (.str i) (.str j) = decide (i = j) := by
  rw [PyData.eqv]
  by_cases h : i = j <;> simp [h]
theorem eqvAll_ints : ∀ ns ms : List Int, PyData.eqvAll (ns.map PyData.int) (ms.map PyData.int) = decide (ns = ms)
  | [], [] => by simp [PyData.eqvAll]
  | [], _ :: _ => by simp [PyData.eqvAll]
  | _ :: _, [] => by simp [PyData.eqvAll]
  | n :: ns, m :: ms => by
    simp only [List.map_cons, PyData.eqvAll, eqv_int, eqvAll_ints ns ms]
    by_cases h1 : n = m <;> by_cases h2 : ns = ms <;> simp [h1, h2]
theorem eqv_tie (s t : Tie) : PyData.eqv (tieP s) (tieP t) = decide (s = t) := by
  obtain ⟨a, b⟩ := s
  obtain ⟨c, d⟩ := t
  simp only [tieP, PyData.eqv, PyData.eqvAll]
  by_cases h1 : a = c <;> by_cases h2 : b = d <;> simp [h1, h2]
  all_goals omega
section
variable (M : Mem) (neg : Bool)
@[simp] theorem ev_eqI (i j : Int) : eqD neg (.int i) (.int j) M = .ok (.bl (if neg then !decide (i = j) else decide (i = j))) M := by
  unfold eqD
  simp only [toPM, toP, shaped_int, eqv_int, Bool.and_self, if_true]
theorem ev_eqS (i j : Str) : eqD neg (.str i) (.str j) M = .ok (.bl (if neg then !decide (i = j) else decide (i = j))) M := rfl
theorem ev_eqT (ns ms : List Int) : eqD neg (.tup (ns.map D.int)) (.tup (ms.map D.int)) M = .ok (.bl (if neg then !decide (ns = ms) else decide (ns = ms))) M := by
  unfold eqD
  simp only [toPM, toP, toPs_ints, Option.map_some, (shaped_ints _).2, PyData.eqv, eqvAll_ints, Bool.and_self, if_true]
theorem eqv_nil (ps : List PyData) : PyData.eqv (.list ps) (.list []) = ps.isEmpty := by
  cases ps <;> simp [PyData.eqv, PyData.eqvAll]
theorem ev_neNil (ns : List Int) : eqD neg (.lst (ns.map D.int)) (.lst []) M = .ok (.bl (if neg then !ns.isEmpty else ns.isEmpty)) M := by
  unfold eqD
  have h0 := (shaped_ints []).1
  simp only [List.map_nil] at h0
  simp only [toPM, toP, toPs_ints, toPs, Option.map_some, (shaped_ints _).1, h0, eqv_nil, Bool.and_self, if_true, List.isEmpty_map]
theorem ev_neNilT (ns : List Tie) : eqD neg (.lst (ns.map tieD)) (.lst []) M = .ok (.bl (if neg then !ns.isEmpty else ns.isEmpty)) M := by
  unfold eqD
  have h0 := (shaped_ints []).1
  simp only [List.map_nil] at h0
  simp only [toPM, toP, toPs_ties, toPs, Option.map_some, (shaped_ties _).1, h0, eqv_nil, Bool.and_self, if_true, List.isEmpty_map]
theorem ev_neNilR (k : Nat) (ns : List Int) (h : M[k]? = some (.lst (ns.map D.int))) : eqD neg (.ref k) (.lst []) M = .ok (.bl (if neg then !ns.isEmpty else ns.isEmpty)) M := by
  unfold eqD
  have h0 := (shaped_ints []).1
  simp only [List.map_nil] at h0
  simp only [toPM, h, toP, toPs_ints, toPs, Option.map_some, (shaped_ints _).1, h0, eqv_nil, Bool.and_self, if_true, List.isEmpty_map]
theorem any_tie (t : Tie) : ∀ ts : List Tie, ((ts.map tieP).any fun z => PyData.eqv z (tieP t)) = decide (t ∈ ts)
  | [] => by simp
  | s :: ts => by
    rw [List.map_cons, List.any_cons, eqv_tie, any_tie t ts]
    by_cases h : s = t <;> simp [h, eq_comm]
    intro h'; exact absurd h'.symm h
theorem any_int (t : Int) : ∀ ts : List Int, ((ts.map PyData.int).any fun z => PyData.eqv z (.int t)) = decide (t ∈ ts)
  | [] => by simp
  | s :: ts => by
    rw [List.map_cons, List.any_cons, eqv_int, any_int t ts]
    by_cases h : s = t <;> simp [h, eq_comm]
    intro h'; exact absurd h'.symm h
theorem ev_inT (t : Tie) (ts : List Tie) : inD neg (tieD t) (.tup (ts.map tieD)) M = .ok (.bl (if neg then !decide (t ∈ ts) else decide (t ∈ ts))) M := by
  have h1 : toPM M (tieD t) = some (tieP t) := toP_tie t
  have h2 : toPM M (.tup (ts.map tieD)) = some (.tuple (ts.map tieP)) := by simp only [toPM, toP, toPs_ties, Option.map_some]
  have h3 : dgetD M (.tup (ts.map tieD)) (tieD t) = none := rfl
  unfold inD
  rw [h3, h1, h2]
  simp only [shaped_tie, (shaped_ties _).2, any_tie, Bool.and_self, if_true]
theorem ev_inL (t : Int) (ts : List Int) : inD neg (.int t) (.lst (ts.map D.int)) M = .ok (.bl (if neg then !decide (t ∈ ts) else decide (t ∈ ts))) M := by
  unfold inD
  simp only [dgetD, toPM, toP, toPs_ints, Option.map_some, shaped_int, (shaped_ints _).1, any_int, Bool.and_self, if_true]
/-! ### order -/
theorem lt_tie (s t : Tie) : PySem.W.dataLt (tieP s) (tieP t) = decide (tlt s t) := by
  obtain ⟨a, b⟩ := s
  obtain ⟨c, d⟩ := t
  simp only [PySem.W.dataLt, tieP, PySem.W.keyToks, PySem.W.keyToksAll, List.cons_append, List.nil_append, PyProof.Rows.lexLt, PyProof.Rows.itemLt, tlt]
  by_cases h1 : a < c
  · simp [h1]
  · by_cases h2 : c < a
    · simp [h1, h2]; omega
    · have : a = c := by omega
      subst this
      by_cases h3 : b < d
      · simp [h3]
      · simp [h3]
theorem lt_int (i j : Int) : PySem.W.dataLt (.int i) (.int j) = decide (i < j) := by
  simp [PySem.W.dataLt, PySem.W.keyToks, PyProof.Rows.lexLt, PyProof.Rows.itemLt]
theorem ev_ltT (s t : Tie) : ltD (tieD s) (tieD t) M = .ok (.bl (decide (tlt s t))) M := by
  have h : ∀ x y : D, (∀ i, x ≠ .int i) → ltD x y M = (match toPM M x, toPM M y with
    | some p, some q => if SeqAt.shaped p && SeqAt.shaped q && PySem.W.alike p q && noNone p then .ok (.bl (PySem.W.dataLt p q)) M else .no
    | _, _ => .no) := fun x y hx => by
    unfold ltD
    split
    · rename_i i j; exact absurd rfl (hx i)
    · rfl
  rw [h _ _ (fun i e => D.noConfusion e)]
  have h1 : ∀ t, toPM M (tieD t) = some (tieP t) := toP_tie
  rw [h1, h1]
  have al : PySem.W.alike (tieP s) (tieP t) = true := by simp [tieP, PySem.W.alike, PySem.W.alikeAll]
  have nn : noNone (tieP s) = true := rfl
  simp only [shaped_tie, al, lt_tie, Bool.true_and, nn, if_true]
theorem le_dP (x y : D) : leD' x y = !PySem.W.dataLt (dP y) (dP x) := rfl
theorem le_tie (s t : Tie) : leD' (tieD s) (tieD t) = !decide (tlt t s) := by rw [le_dP, dP_tie, dP_tie, lt_tie]
theorem le_int (i j : Int) : leD' (.int i) (.int j) = !decide (j < i) := by rw [le_dP]; show (!PySem.W.dataLt (.int j) (.int i)) = _; rw [lt_int]
theorem sort_pw (ds : List D) : (ds.mergeSort leD').Pairwise (fun a b => leD' a b = true) := PySem.W.sort_pairwise (le := leD') (PySem.W.sortLe_total (PyProof.Rows.listOrd PyProof.Rows.itemOrd) false fun b => PySem.W.keyToks (dP b)) ds
/-- sorting ties: the one list in order -/
theorem sort_ties {l ts : List Tie} (hp : l.Perm ts) (hs : ts.Pairwise tlt) : (l.map tieD).mergeSort leD' = ts.map tieD := by
  refine List.Perm.eq_of_pairwise (le := fun a b => leD' a b = true) ?_ (sort_pw _) ?_ ((List.mergeSort_perm _ _).trans (hp.map tieD))
  · intro a b ha hb h1 h2
    obtain ⟨s, hs, rfl⟩ := List.mem_map.mp ((List.mergeSort_perm _ _).mem_iff.mp ha)
    obtain ⟨t, ht, rfl⟩ := List.mem_map.mp hb
    rw [le_tie] at h1 h2
    have : s = t := tie_ext (by simpa using h2) (by simpa using h1)
    rw [this]
  · rw [List.pairwise_map]
    refine hs.imp fun {a b} h => ?_
    rw [le_tie]
    simpa using tlt_asymm h
theorem sort_ints {l ns : List Int} (hp : l.Perm ns) (hs : ns.Pairwise (· < ·)) : (l.map D.int).mergeSort leD' = ns.map D.int := by
  refine List.Perm.eq_of_pairwise (le := fun a b => leD' a b = true) ?_ (sort_pw _) ?_ ((List.mergeSort_perm _ _).trans (hp.map D.int))
  · intro a b ha hb h1 h2
    obtain ⟨s, hs, rfl⟩ := List.mem_map.mp ((List.mergeSort_perm _ _).mem_iff.mp ha)
    obtain ⟨t, ht, rfl⟩ := List.mem_map.mp hb
    rw [le_int] at h1 h2
    have : s = t := by simp at h1 h2; omega
    rw [this]
  · rw [List.pairwise_map]
    refine hs.imp fun {a b} h => ?_
    rw [le_int]
    simp; omega
theorem alike_ties (ps : List Tie) : alikeDs (ps.map tieP) = true := by
  unfold alikeDs
  rw [List.all_eq_true]
  intro x hx
  rw [List.all_eq_true]
  intro y hy
  obtain ⟨s, _, rfl⟩ := List.mem_map.mp hx
  obtain ⟨t, _, rfl⟩ := List.mem_map.mp hy
  simp [tieP, PySem.W.alike, PySem.W.alikeAll]
theorem alike_ints (ps : List Int) : alikeDs (ps.map PyData.int) = true := by
  unfold alikeDs
  rw [List.all_eq_true]
  intro x hx
  rw [List.all_eq_true]
  intro y hy
  obtain ⟨s, _, rfl⟩ := List.mem_map.mp hx
  obtain ⟨t, _, rfl⟩ := List.mem_map.mp hy
  simp [PySem.W.alike]
theorem sortOk_ties (ts : List Tie) : sortOk (ts.map tieD) = true := by
  unfold sortOk
  rw [toPs_ties]
  simp only [alike_ties, Bool.true_and, Bool.and_eq_true, Bool.or_eq_true, List.all_map, List.all_eq_true]
  exact ⟨.inl fun t _ => rfl, fun t _ => by show decide ((tieP t).depth ≤ 60) = true; rw [tieP_depth]; rfl⟩
theorem sortOk_ints (ts : List Int) : sortOk (ts.map D.int) = true := by
  unfold sortOk
  rw [toPs_ints]
  simp only [alike_ints, Bool.true_and, Bool.and_eq_true, Bool.or_eq_true, List.all_map, List.all_eq_true]
  exact ⟨.inr fun t _ => rfl, fun t _ => by show decide ((PyData.int t).depth ≤ 60) = true; simp [PyData.depth]⟩
theorem sortL_ties {l ts : List Tie} (hp : l.Perm ts) (hs : ts.Pairwise tlt) (hl : l.length ≤ 1000000) : sortL true (l.map tieD) M = .ok (.lst (ts.map tieD)) M := by
  unfold sortL
  rw [if_pos (sortOk_ties l), sort_ties hp hs, mkL_true _ _ (by rw [List.length_map, ← hp.length_eq, sizeLine_eq]; omega)]
theorem sortL_ints {l ts : List Int} (hp : l.Perm ts) (hs : ts.Pairwise (· < ·)) (hl : l.length ≤ 1000000) : sortL true (l.map D.int) M = .ok (.lst (ts.map D.int)) M := by
  unfold sortL
  rw [if_pos (sortOk_ints l), sort_ints hp hs, mkL_true _ _ (by rw [List.length_map, ← hp.length_eq, sizeLine_eq]; omega)]
end
/-! ### slices -/
theorem cut_from (ds : List D) : cutD ds (some 1) none = ds.drop 1 := by
  unfold cutD HT.sIx
  cases ds with
  | nil => simp
  | cons d ds => simp
theorem cut_to (ds : List D) (k : Nat) : cutD ds none (some (k : Int)) = ds.take k := by
  unfold cutD
  rw [HT.sIx_nat, HT.sIx_none]
  show (ds.drop 0).take (min k ds.length - 0) = ds.take k
  rw [List.drop_zero, Nat.sub_zero]
  by_cases h : k ≤ ds.length
  · rw [Nat.min_eq_left h]
  · rw [Nat.min_eq_right (by omega), List.take_of_length_le (Nat.le_refl _), List.take_of_length_le (by omega)]
end Dl

set_option Elab.async false
set_option linter.all false
set_option autoImplicit false
set_option maxRecDepth 100000
set_option maxHeartbeats 4000000
/-! plain data: what repr and == are defined on. -/
namespace Dl
noncomputable section
open PySem PySem.Spec L2
structure Pl (d : D) (k w : Nat) : Prop where
  ex : ∃ p, toP d = some p ∧ p.canLay0 = true ∧ p.showable = true ∧ p.depth ≤ k ∧ p.bulk ≤ w ∧ p.leavesShort 13 = true
structure PlA (ds : List D) (k w : Nat) : Prop where
  ex : ∃ ps, toPs ds = some ps ∧ PyData.canLayAll0 ps = true ∧ PyData.showableAll ps = true ∧ PyData.depthAll ps ≤ k ∧ PyData.bulkAll ps ≤ w ∧ PyData.leavesShortAll 13 ps = true
theorem Pl.mono {d : D} {k w k' w' : Nat} (h : Pl d k w) (hk : k ≤ k') (hw : w ≤ w') : Pl d k' w' := by
  obtain ⟨p, h1, h2, h3, h4, h5, h6⟩ := h.ex
  exact ⟨p, h1, h2, h3, by omega, by omega, h6⟩
theorem PlA.mono {d : List D} {k w k' w' : Nat} (h : PlA d k w) (hk : k ≤ k') (hw : w ≤ w') : PlA d k' w' := by
  obtain ⟨p, h1, h2, h3, h4, h5, h6⟩ := h.ex
  exact ⟨p, h1, h2, h3, by omega, by omega, h6⟩
theorem Pl.non {k w : Nat} : Pl .non k w := ⟨.none, rfl, rfl, rfl, Nat.zero_le _, Nat.zero_le _, rfl⟩
theorem Pl.bl {b : Bool} {k w : Nat} : Pl (.bl b) k w := ⟨.bool b, rfl, rfl, rfl, Nat.zero_le _, Nat.zero_le _, rfl⟩
theorem Pl.int {i : Int} {k w : Nat} (h : i.natAbs < 1000000000000) : Pl (.int i) k w := by
  refine ⟨.int i, rfl, rfl, ?_, Nat.zero_le _, Nat.zero_le _, ?_⟩
  · have e : i.natAbs.log2 < 1920 := by
      by_cases h0 : i.natAbs = 0
      · rw [h0]; simp
      · have := (Nat.log2_lt h0 (k := 40)).mpr (by have : (1000000000000 : Nat) < 2 ^ 40 := by decide
                                                   omega)
        omega
    simp only [PyData.showable, e, decide_true]
  · simp only [PyData.leavesShort, decide_eq_true_eq]
    exact PyData.shown_int_le (by have : (10 : Nat) ^ 12 = 1000000000000 := by decide
                                  omega)
theorem Pl.nat {n : Nat} {k w : Nat} (h : n ≤ 1000000) : Pl (.int n) k w := Pl.int (by omega)
theorem Pl.str {s : Str} {k w : Nat} (h1 : PyData.strOk s = true) (h2 : s.cps.size ≤ w) (h3 : (s.cps.toList.all fun c => decide (c < 16 ^ 8)) = true) : Pl (.str s) k w :=
  ⟨.str s, rfl, h1, rfl, Nat.zero_le _, h2, h3⟩
theorem PlA.nil {k w : Nat} : PlA [] k w := ⟨[], by rw [toPs], rfl, rfl, Nat.zero_le _, Nat.zero_le _, rfl⟩
theorem PlA.cons {d : D} {ds : List D} {k w1 w2 : Nat} (h : Pl d k w1) (r : PlA ds k w2) : PlA (d :: ds) k (w1 + 1 + w2) := by
  obtain ⟨p, h1, h2, h3, h4, h5, h6⟩ := h.ex
  obtain ⟨ps, r1, r2, r3, r4, r5, r6⟩ := r.ex
  refine ⟨p :: ps, by rw [toPs, h1, r1], ?_, ?_, ?_, ?_, ?_⟩
  · rw [PyData.canLayAll0, h2, r2]; rfl
  · rw [PyData.showableAll, h3, r3]; rfl
  · rw [PyData.depthAll]; omega
  · rw [PyData.bulkAll]; omega
  · rw [PyData.leavesShortAll, h6, r6]; rfl
theorem PlA.of {k w : Nat} : ∀ {ds : List D}, (∀ d ∈ ds, Pl d k w) → PlA ds k ((w + 1) * ds.length)
  | [], _ => .nil
  | d :: ds, h => (PlA.cons (h d List.mem_cons_self) (PlA.of fun x hx => h x (List.mem_cons_of_mem _ hx))).mono (Nat.le_refl _) (by rw [List.length_cons, Nat.mul_succ]; omega)
theorem Pl.tup {ds : List D} {k w : Nat} (h : PlA ds k w) : Pl (.tup ds) (k + 1) w := by
  obtain ⟨ps, r1, r2, r3, r4, r5, r6⟩ := h.ex
  refine ⟨.tuple ps, by rw [toP, r1]; rfl, ?_, ?_, ?_, ?_, ?_⟩
  · rw [PyData.canLay0, r2]
  · rw [PyData.showable, r3]
  · rw [PyData.depth]; omega
  · rw [PyData.bulk]; omega
  · rw [PyData.leavesShort, r6]
theorem Pl.lst {ds : List D} {k w : Nat} (h : PlA ds k w) : Pl (.lst ds) (k + 1) w := by
  obtain ⟨ps, r1, r2, r3, r4, r5, r6⟩ := h.ex
  refine ⟨.list ps, by rw [toP, r1]; rfl, ?_, ?_, ?_, ?_, ?_⟩
  · rw [PyData.canLay0, r2]
  · rw [PyData.showable, r3]
  · rw [PyData.depth]; omega
  · rw [PyData.bulk]; omega
  · rw [PyData.leavesShort, r6]
theorem toPM_pl {d : D} {p : PyData} (M : Mem) (h : toP d = some p) : toPM M d = some p := by
  cases d with
  | ref n => rw [toP] at h; cases h
  | _ => exact h
/-- repr of plain data -/
theorem ev_reprP {d : D} {k w : Nat} (h : Pl d k w) (hk : k ≤ 60) (hw : w ≤ 1000000) : ∃ t : Str, ∀ M, reprD [d] M = .ok (.str t) M := by
  obtain ⟨p, h1, h2, h3, h4, h5, h6⟩ := h.ex
  have ok : showOk p = true := by
    have fit := PyData.shown_fits_bulk (B := 13) (by decide) (by decide) h6 (Nat.le_trans h5 (Nat.le_trans hw (by decide)))
    unfold showOk
    rw [h3, PyData.hasDict_of_canLay p h2]
    simp only [Bool.not_false, Bool.true_and, Bool.and_eq_true, decide_eq_true_eq, sz, cdec_iff]
    exact ⟨by omega, fit⟩
  by_cases hi : ∃ i, d = .int i
  · obtain ⟨i, rfl⟩ := hi
    cases h1
    refine ⟨toString i, fun M => ?_⟩
    rw [PyData.showable] at h3
    show (if decide (i.natAbs.log2 < 1920) then Rs.ok (D.str (toString i)) M else .no) = _
    rw [if_pos h3]
  · refine ⟨p.shown, fun M => ?_⟩
    have e : reprD [d] M = match toPM M d with
      | some p => if showOk p then .ok (.str (PyData.shown p)) M else .no
      | none => .no := by
      cases d with
      | int i => exact absurd ⟨i, rfl⟩ hi
      | _ => rfl
    rw [e, toPM_pl M h1]
    show (if showOk p then Rs.ok (D.str (PyData.shown p)) M else .no) = _
    rw [if_pos ok]
theorem shaped_of {p : PyData} {k : Nat} (h1 : p.canLay0 = true) (h2 : p.depth ≤ k) (hk : k ≤ 60) : SeqAt.shaped p = true := by
  show (p.canLay0 && decide (p.depth ≤ 64)) = true
  rw [h1, decide_eq_true (by omega)]; rfl
theorem toPs_len : ∀ {ds : List D} {ps : List PyData}, toPs ds = some ps → ps.length = ds.length
  | [], ps, h => by rw [toPs] at h; cases h; rfl
  | d :: ds, ps, h => by
    rw [toPs] at h
    cases e1 : toP d with
    | none => rw [e1] at h; cases h
    | some p =>
      cases e2 : toPs ds with
      | none => rw [e1, e2] at h; cases h
      | some qs =>
        rw [e1, e2] at h
        cases h
        rw [List.length_cons, List.length_cons, toPs_len e2]
theorem ev_neNilP {ds : List D} {k w : Nat} (h : PlA ds k w) (hk : k ≤ 59) (M : Mem) (neg : Bool) : eqD neg (.lst ds) (.lst []) M = .ok (.bl (if neg then !ds.isEmpty else ds.isEmpty)) M := by
  obtain ⟨p, h1, h2, h3, h4, h5, h6⟩ := h.ex
  have h0 := (shaped_ints []).1
  simp only [List.map_nil] at h0
  have sh : SeqAt.shaped (.list p) = true := shaped_of (k := k + 1) (by rw [PyData.canLay0, h2]) (by rw [PyData.depth]; omega) (by omega)
  have e : p.isEmpty = ds.isEmpty := by
    have := toPs_len h1
    cases p <;> cases ds <;> first | rfl | cases this
  unfold eqD
  simp only [toPM, toP, h1, toPs, Option.map_some, sh, h0, eqv_nil, Bool.and_self, if_true, e]
theorem eqv_nilT (ps : List PyData) : PyData.eqv (.tuple ps) (.tuple []) = ps.isEmpty := by
  cases ps <;> simp [PyData.eqv, PyData.eqvAll]
theorem ev_eqNilT {ds : List D} {k w : Nat} (h : PlA ds k w) (hk : k ≤ 59) (M : Mem) (neg : Bool) : eqD neg (.tup ds) (.tup []) M = .ok (.bl (if neg then !ds.isEmpty else ds.isEmpty)) M := by
  obtain ⟨p, h1, h2, h3, h4, h5, h6⟩ := h.ex
  have h0 := (shaped_ints []).2
  simp only [List.map_nil] at h0
  have sh : SeqAt.shaped (.tuple p) = true := shaped_of (k := k + 1) (by rw [PyData.canLay0, h2]) (by rw [PyData.depth]; omega) (by omega)
  have e : p.isEmpty = ds.isEmpty := by
    have := toPs_len h1
    cases p <;> cases ds <;> first | rfl | cases this
  unfold eqD
  simp only [toPM, toP, h1, toPs, Option.map_some, sh, h0, eqv_nilT, Bool.and_self, if_true, e]
end
end Dl

set_option Elab.async false
set_option linter.all false
set_option autoImplicit false
set_option maxRecDepth 100000
set_option maxHeartbeats 0
/-! Printed by gen.py: the functions. -/
namespace Dl
open PySem PySem.Spec PyProof.Rows L2
def sub0 (a b : Nat) : Bool := decide (a = b) || (decide (a = 2) && decide (b = 1)) || (decide (a = 3) && decide (b = 1)) || (decide (a = 4) && decide (b = 1))
noncomputable def H__law_met : List (Nat × HH) := [(2, (hTup (hCons (hC (.str "BadWeb")) (hCons (hF 2 "web") hNil)))), (3, (hTup (hCons (hC (.str "BadRow")) (hCons (hF 3 "row") hNil)))), (4, (hTup (hCons (hC (.str "NotKept")) (hCons (hF 4 "promise") (hCons (hF 4 "witness") hNil)))))]
noncomputable def B_is_whole : SS := (sRet (eAnd (eB isiD (aCons (eVar 0) (aCons (eC (.ty "int")) aNil))) (e1 notD (eB isiD (aCons (eVar 0) (aCons (eC (.ty "bool")) aNil))))))
noncomputable def F_is_whole : FF := defF 1 B_is_whole
noncomputable def B_hued_direction : SS := (sRet (eB tupleD (aCons (eLc true (aOf itT (e2 ixD (eVar 0) (eC (.int 1)))) (gTupD (gsCons (gN 2) (gsCons (gN 3) gsNil))) tYes' (eIf (tBl (e2 ltD (e2 ixD (eVar 1) (eVar 2)) (e2 ixD (eVar 1) (eVar 3)))) (eTup (aCons (eVar 2) (aCons (eVar 3) aNil))) (eTup (aCons (eVar 3) (aCons (eVar 2) aNil)))) [2, 3]) aNil)))
noncomputable def F_hued_direction : FF := defF 4 B_hued_direction
noncomputable def B__law_pen : SS := (sRet (eDisp [(.inr "cells", (eB (listD true) (aCons (eSlice true (eVar 0) oNo (oSome (eC (.int 63)))) aNil))), (.inr "at", (eC (.int 0))), (.inr "rest", (eC (.int 0)))]))
noncomputable def F__law_pen : FF := defF 1 B__law_pen
noncomputable def B__law_draw : SS := (sSeq (sIf (tBl (e2 gtD (e2 ixD (eVar 0) (eC (.str "rest"))) (eC (.int 0)))) (sSeq (sAsg (e2 modD (eB intD (aCons (e2 ixD (eVar 0) (eC (.str "rest"))) aNil)) (eVar 1)) (gN 5)) (sSeq (sAsg (e2 fdivD (e2 ixD (eVar 0) (eC (.str "rest"))) (eVar 1)) (gSubD (eVar 0) (eC (.str "rest")))) (sRet (eVar 5)))) sNx) (sSeq (sAsg (e2 ixD (eVar 0) (eC (.str "at"))) (gN 2)) (sSeq (sAsg (e2 (addD true) (eVar 2) (eC (.int 1))) (gSubD (eVar 0) (eC (.str "at")))) (sSeq (sAsg (e2 (addD true) (e2 (mulD true) (eC (.int 61)) (eVar 2)) (eC (.int 83))) (gN 3)) (sSeq (sIf (tBl (e2 (eqD true) (e2 ixD (eVar 0) (eC (.str "cells"))) (eLst true aNil))) (sAsg (e2 ixD (e2 ixD (eVar 0) (eC (.str "cells"))) (e2 modD (eB intD (aCons (eVar 2) aNil)) (eB lenD (aCons (e2 ixD (eVar 0) (eC (.str "cells"))) aNil)))) (gN 3)) sNx) (sSeq (sIf (bAnd (tBl (e2 ltD (eVar 2) (eB lenD (aCons (e2 ixD (eVar 0) (eC (.str "cells"))) aNil)))) (tBl (e2 geD (eB absD (aCons (eVar 3) aNil)) (e2 powD (eC (.int 10)) (eC (.int 18)))))) (sSeq (sAsg (e2 fdivD (e2 subD (eB absD (aCons (eVar 3) aNil)) (e2 powD (eC (.int 10)) (eC (.int 18)))) (eVar 1)) (gSubD (eVar 0) (eC (.str "rest")))) (sRet (e2 modD (eB intD (aCons (e2 subD (eB absD (aCons (eVar 3) aNil)) (e2 powD (eC (.int 10)) (eC (.int 18)))) aNil)) (eVar 1)))) sNx) (sSeq (sAsg (e2 (addD true) (e2 (mulD true) (e2 modD (eB intD (aCons (eVar 3) aNil)) (eC (.int 4294967197))) (eC (.int 48017))) (e2 (mulD true) (e2 (mulD true) (eC (.int 22013)) (eVar 2)) (eVar 2))) (gN 4)) (sSeq (sAsg (e2 modD (eB intD (aCons (e2 (addD true) (e2 (addD true) (eVar 4) (e2 (mulD true) (eC (.int 1543)) (eVar 2))) (eC (.int 17))) aNil)) (eC (.int 4294967189))) (gN 4)) (sSeq (sAsg (e2 modD (eB intD (aCons (e2 (addD true) (e2 (addD true) (e2 (addD true) (e2 (mulD true) (eVar 4) (eVar 4)) (e2 (mulD true) (eC (.int 68891)) (eVar 4))) (e2 (mulD true) (eC (.int 29)) (eVar 2))) (eC (.int 7))) aNil)) (eC (.int 4294967161))) (gN 4)) (sRet (e2 modD (eB intD (aCons (e2 fdivD (e2 modD (eB intD (aCons (e2 (mulD true) (eVar 4) (e2 (addD true) (eVar 4) (eC (.int 57041)))) aNil)) (eC (.int 4294967143))) (eC (.int 64))) aNil)) (eVar 1))))))))))))
noncomputable def F__law_draw : FF := defF 6 B__law_draw
noncomputable def B__law_web : SS := (sRet (eTup (aCons (eVar 0) (aCons (eB tupleD (aCons (eB (sortedD true) (aCons (eB dictTD (aCons (eLc true (aOf itL (eVar 1)) (gN 2) tYes' (eTup (aCons (eVar 2) (aCons (eC (.bl true)) aNil))) [2]) aNil)) aNil)) aNil)) aNil))))
noncomputable def F__law_web : FF := defF 3 B__law_web
noncomputable def B__law_no_webs : SS := (sSeq (sAsg (eVar 0) (gTupD (gsCons (gN 2) (gsCons (gN 3) gsNil)))) (sSeq (sAsg (eLst true (aCons (eC .non) (aCons (eB (listD true) (aCons (eVar 0) aNil)) (aCons (eTup (aCons (eVar 2) (aCons (eB (listD true) (aCons (eVar 3) aNil)) aNil))) (aCons (eTup (aCons (eVar 2) (aCons (eVar 3) (aCons (eTup aNil) aNil)))) (aCons (eTup (aCons (e1 negD (eC (.int 1))) (aCons (eTup aNil) aNil))) (aCons (eTup (aCons (eC (.bl true)) (aCons (eTup aNil) aNil))) (aCons (eTup (aCons (eVar 2) (aCons (e2 (addD true) (eVar 3) (eTup (aCons (eTup (aCons (eC (.int 0)) (aCons (eVar 2) aNil))) aNil))) aNil))) (aCons (eC (.str "web")) aNil))))))))) (gN 1)) (sRet (e2 (addD true) (eVar 1) (eLst true (aCons (eTup (aCons (eVar 2) (aCons (e2 (addD true) (eVar 3) (eTup (aCons (eTup (aCons (eC (.int 1)) (aCons (eC (.int 0)) aNil))) aNil))) aNil))) (aCons (eTup (aCons (eVar 2) (aCons (e2 (addD true) (eVar 3) (eTup (aCons (eTup (aCons (eC (.int 0)) aNil)) aNil))) aNil))) (aCons (eTup (aCons (e2 (addD true) (eVar 2) (eC (.int 2))) (aCons (eTup (aCons (eTup (aCons (eC (.int 0)) (aCons (eC (.int 1)) aNil))) (aCons (eTup (aCons (eC (.int 0)) (aCons (eC (.int 1)) aNil))) aNil))) aNil))) (aCons (eTup (aCons (eVar 2) (aCons (e2 (addD true) (eVar 3) (eTup (aCons (eLst true (aCons (eC (.int 0)) (aCons (eC (.int 0)) aNil))) aNil))) aNil))) (aCons (eTup (aCons (eVar 2) aNil)) aNil))))))))))
noncomputable def F__law_no_webs : FF := defF 4 B__law_no_webs
noncomputable def B__law_are_hues : SS := (sSeq (sIf (bOr (bNot (tTru (eB isiD (aCons (eVar 1) (aCons (eC (.ty "tuple")) aNil))))) (tBl (e2 (eqD true) (eB lenD (aCons (eVar 1) aNil)) (e2 ixD (eVar 0) (eC (.int 0)))))) (sRet (eC (.bl false))) sNx) (sSeq (sIf (tBl (e2 (eqD true) (eLc true (aOf itT (eVar 1)) (gN 2) (bOr (bNot (tTru (eB isiD (aCons (eVar 2) (aCons (eC (.ty "int")) aNil))))) (bOr (tTru (eB isiD (aCons (eVar 2) (aCons (eC (.ty "bool")) aNil)))) (tBl (e2 ltD (eVar 2) (eC (.int 0)))))) (eVar 2) [2]) (eLst true aNil))) (sRet (eC (.bl false))) sNx) (sRet (e2 (eqD false) (eLc true (aOf itT (e2 ixD (eVar 0) (eC (.int 1)))) (gN 3) (tBl (e2 (eqD false) (e2 ixD (eVar 1) (e2 ixD (eVar 3) (eC (.int 0)))) (e2 ixD (eVar 1) (e2 ixD (eVar 3) (eC (.int 1)))))) (eVar 3) [3]) (eLst true aNil)))))
noncomputable def F__law_are_hues : FF := defF 4 B__law_are_hues
noncomputable def B__law_is_direction_for1 : SS := (sIf (bAnd (tBl (e2 (eqD true) (eB reprD (aCons (eVar 3) aNil)) (eB reprD (aCons (eVar 2) aNil)))) (tBl (e2 (eqD true) (eB reprD (aCons (eVar 3) aNil)) (eB reprD (aCons (e1 revD (eVar 2)) aNil))))) (sRet (eC (.bl false))) sNx)
noncomputable def B__law_is_direction : SS := (sSeq (sIf (bOr (bNot (tTru (eB isiD (aCons (eVar 1) (aCons (eC (.ty "tuple")) aNil))))) (tBl (e2 (eqD true) (eB lenD (aCons (eVar 1) aNil)) (eB lenD (aCons (e2 ixD (eVar 0) (eC (.int 1))) aNil))))) (sRet (eC (.bl false))) sNx) (sSeq (sFor (aArg zipA (aCons (e2 ixD (eVar 0) (eC (.int 1))) (aCons (eVar 1) aNil))) (gTupD (gsCons (gN 2) (gsCons (gN 3) gsNil))) B__law_is_direction_for1) (sRet (eC (.bl true)))))
noncomputable def F__law_is_direction : FF := defF 4 B__law_is_direction
noncomputable def B__law_is_way : SS := (sSeq (sIf (bOr (bNot (tTru (eB isiD (aCons (eVar 2) (aCons (eC (.ty "tuple")) aNil))))) (tBl (e2 (eqD false) (eVar 2) (eTup aNil)))) (sRet (eC (.bl false))) sNx) (sSeq (sIf (tBl (e2 (eqD true) (eLc true (aOf itT (eVar 2)) (gN 3) (bOr (bNot (tTru (eB isiD (aCons (eVar 3) (aCons (eC (.ty "int")) aNil))))) (tTru (eB isiD (aCons (eVar 3) (aCons (eC (.ty "bool")) aNil))))) (eVar 3) [3]) (eLst true aNil))) (sRet (eC (.bl false))) sNx) (sSeq (sIf (bOr (tBl (e2 (eqD true) (eLc true (aOf itT (eVar 2)) (gN 3) (bNot (tBl (eChain leD ltD (eC (.int 0)) (eVar 3) (e2 ixD (eVar 0) (eC (.int 0)))))) (eVar 3) [3]) (eLst true aNil))) (tBl (e2 (eqD true) (eB lenD (aCons (eB dictKD (aCons (eLc true (aOf itT (eVar 2)) (gN 4) tYes' (eTup (aCons (eVar 4) (aCons (eC (.int 1)) aNil))) [4]) aNil)) aNil)) (eB lenD (aCons (eVar 2) aNil))))) (sRet (eC (.bl false))) sNx) (sRet (e2 (eqD false) (eLc true (aRng rng2 (aCons (eC (.int 1)) (aCons (eB lenD (aCons (eVar 2) aNil)) aNil))) (gN 4) (tBl (e2 (inD true) (eTup (aCons (e2 ixD (eVar 2) (e2 subD (eVar 4) (eC (.int 1)))) (aCons (e2 ixD (eVar 2) (eVar 4)) aNil))) (eVar 1))) (eVar 4) [4]) (eLst true aNil))))))
noncomputable def F__law_is_way : FF := defF 5 B__law_is_way
noncomputable def B_is_count : SS := (sRet (eAnd (eCall 1 F_is_whole (aCons (eVar 0) aNil)) (e2 geD (eVar 0) (eC (.int 0)))))
noncomputable def F_is_count : FF := defF 1 B_is_count
noncomputable def B__law_pick : SS := (sRet (e2 ixD (eVar 1) (eCall 2 F__law_draw (aCons (eVar 0) (aCons (eB lenD (aCons (eVar 1) aNil)) aNil)))))
noncomputable def F__law_pick : FF := defF 2 B__law_pick
noncomputable def B__law_shuffled_while1 : SS := (sExpr (eBM appendD (eVar 3) (aCons (eBM popD (eVar 2) (aCons (eCall 2 F__law_draw (aCons (eVar 0) (aCons (eB lenD (aCons (eVar 2) aNil)) aNil))) aNil)) aNil)))
noncomputable def B__law_shuffled : SS := (sSeq (sPar 2 3 (aCons (eB (listD false) (aCons (eVar 1) aNil)) (aCons (eLst false aNil) aNil))) (sSeq (sWhile 100000 (tBl (e2 (eqD true) (eVar 2) (eLst true aNil))) B__law_shuffled_while1) (sRet (eFz (eVar 3)))))
noncomputable def F__law_shuffled : FF := defF 4 B__law_shuffled
noncomputable def B__law_direction : SS := (sRet (eB tupleD (aCons (eLc true (aOf itT (e2 ixD (eVar 1) (eC (.int 1)))) (gN 2) tYes' (eIf (tBl (e2 (eqD false) (eCall 2 F__law_draw (aCons (eVar 0) (aCons (eC (.int 2)) aNil))) (eC (.int 0)))) (eVar 2) (e1 revD (eVar 2))) [2]) aNil)))
noncomputable def F__law_direction : FF := defF 3 B__law_direction
noncomputable def B__law_bent_for1 : SS := (sExpr (eBM appendD (eVar 2) (aCons (e2 (addD true) (e2 (addD true) (eSlice true (eVar 1) oNo (oSome (eVar 4))) (eTup (aCons (eVar 5) aNil))) (eSlice true (eVar 1) (oSome (e2 (addD true) (eVar 4) (eC (.int 1)))) oNo)) aNil)))
noncomputable def B__law_bent_for2 : SS := (sSeq (sAsg (eCall 2 F__law_draw (aCons (eVar 0) (aCons (eB lenD (aCons (eVar 1) aNil)) aNil))) (gN 4)) (sFor (aOf itL (eLst true (aCons (eC .non) (aCons (eC (.bl true)) (aCons (eCall 2 F__law_draw (aCons (eVar 0) (aCons (eC (.int 4)) aNil))) (aCons (eTup (aCons (eC (.int 0)) aNil)) (aCons (eTup (aCons (eC (.int 0)) (aCons (eC (.int 1)) aNil))) (aCons (eLst true (aCons (eC (.int 0)) (aCons (eC (.int 1)) aNil))) (aCons (e1 negD (eC (.int 1))) (aCons (eC (.str "0")) aNil)))))))))) (gN 5) B__law_bent_for1))
noncomputable def B__law_bent : SS := (sSeq (sAsg (eLst false (aCons (eC .non) (aCons (eB (listD true) (aCons (eVar 1) aNil)) (aCons (eSlice true (eVar 1) (oSome (eC (.int 1))) oNo) (aCons (e2 (addD true) (eVar 1) (eSlice true (eVar 1) (oSome (e1 negD (eC (.int 1)))) oNo)) (aCons (eTup aNil) (aCons (e1 revD (eVar 1)) aNil))))))) (gN 2)) (sSeq (sFor (aRng rng1 (aCons (eIf (tBl (e2 gtD (eB lenD (aCons (eVar 1) aNil)) (eC (.int 0)))) (eC (.int 2)) (eC (.int 0))) aNil)) (gN 3) B__law_bent_for2) (sRet (eFz (eVar 2)))))
noncomputable def F__law_bent : FF := defF 6 B__law_bent
noncomputable def B_is_place : SS := (sRet (eAnd (eCall 1 F_is_count (aCons (eVar 1) aNil)) (e2 ltD (eVar 1) (eVar 0))))
noncomputable def F_is_place : FF := defF 2 B_is_place
noncomputable def B_are_hues_in : SS := (sSeq (sIf (bOr (bNot (tTru (eB isiD (aCons (eVar 1) (aCons (eC (.ty "tuple")) aNil))))) (bOr (tBl (e2 (eqD true) (eB lenD (aCons (eVar 1) aNil)) (e2 ixD (eVar 0) (eC (.int 0))))) (bNot (tTru (eB allD (aCons (eLc true (aOf itT (eVar 1)) (gN 4) tYes' (eCall 1 F_is_count (aCons (eVar 4) aNil)) [4]) aNil)))))) (sRet (eC (.bl false))) sNx) (sRet (eB allD (aCons (eLc true (aOf itT (e2 ixD (eVar 0) (eC (.int 1)))) (gTupD (gsCons (gN 2) (gsCons (gN 3) gsNil))) tYes' (e2 (eqD true) (e2 ixD (eVar 1) (eVar 2)) (e2 ixD (eVar 1) (eVar 3))) [2, 3]) aNil))))
noncomputable def F_are_hues_in : FF := defF 5 B_are_hues_in
noncomputable def B_is_item_of : SS := (sSeq (sIf (bOr (bNot (tTru (eB isiD (aCons (eVar 1) (aCons (eC (.ty "tuple")) aNil))))) (bOr (tBl (e2 (eqD true) (eB lenD (aCons (eVar 1) aNil)) (eC (.int 2)))) (bNot (tTru (eB allD (aCons (eLc true (aOf itT (eVar 1)) (gN 2) tYes' (eCall 1 F_is_count (aCons (eVar 2) aNil)) [2]) aNil)))))) (sRet (eC (.bl false))) sNx) (sRet (e2 (inD false) (eVar 1) (eTup (aCons (eVar 0) (aCons (e1 revD (eVar 0)) aNil))))))
noncomputable def F_is_item_of : FF := defF 3 B_is_item_of
noncomputable def B__law_some_web_for1 : SS := (sExpr (eBM appendD (eVar 6) (aCons (eTup (aCons (eB min2D (aCons (e2 ixD (eVar 7) (e2 subD (eVar 8) (eC (.int 1)))) (aCons (e2 ixD (eVar 7) (eVar 8)) aNil))) (aCons (eB max2D (aCons (e2 ixD (eVar 7) (e2 subD (eVar 8) (eC (.int 1)))) (aCons (e2 ixD (eVar 7) (eVar 8)) aNil))) aNil))) aNil)))
noncomputable def B__law_some_web : SS := (sSeq (sPar 5 6 (aCons (eCall 2 F__law_draw (aCons (eVar 0) (aCons (eC (.int 6)) aNil))) (aCons (eLst false aNil) aNil))) (sSeq (sAsg (eB sumLsD (aCons (eLc true (aRng rng1 (aCons (eVar 1) aNil)) (gN 9) tYes' (eLc true (aRng rng2 (aCons (e2 (addD true) (eVar 9) (eC (.int 1))) (aCons (eVar 1) aNil))) (gN 10) tYes' (eTup (aCons (eVar 9) (aCons (eVar 10) aNil))) [10]) [9]) (aCons (eLst true aNil) aNil))) (gN 3)) (sSeq (sAsg (e2 (addD true) (eC (.int 1)) (eCall 2 F__law_draw (aCons (eVar 0) (aCons (eC (.int 4)) aNil)))) (gN 4)) (sSeq (sIf (tBl (e2 (eqD false) (eVar 5) (eC (.int 0)))) (sAsg (eB (listD false) (aCons (eVar 3) aNil)) (gN 6)) (sIf (tBl (e2 ltD (eVar 5) (eC (.int 4)))) (sAsg (eLc false (aOf itL (eVar 3)) (gN 11) (tBl (e2 ltD (eCall 2 F__law_draw (aCons (eVar 0) (aCons (eC (.int 5)) aNil))) (eVar 4))) (eVar 11) [11]) (gN 6)) (sSeq (sAsg (eCall 2 F__law_shuffled (aCons (eVar 0) (aCons (eListR1 true (eVar 1)) aNil))) (gN 7)) (sSeq (sFor (aRng rng2 (aCons (eIf (bAnd (tBl (e2 (eqD false) (eVar 5) (eC (.int 4)))) (tBl (e2 gtD (eVar 1) (eC (.int 2))))) (eC (.int 0)) (eC (.int 1))) (aCons (eVar 1) aNil))) (gN 8) B__law_some_web_for1) (sAsg (e2 (addD false) (eVar 6) (eLc true (aRng rng1 (aCons (eIf (tBl (e2 (eqD true) (eVar 3) (eLst true aNil))) (eCall 2 F__law_draw (aCons (eVar 0) (aCons (eC (.int 3)) aNil))) (eC (.int 0))) aNil)) (gN 13) tYes' (eCall 2 F__law_pick (aCons (eVar 0) (aCons (eVar 3) aNil))) [13])) (gN 6)))))) (sSeq (sIf (bAnd (tTru (eVar 2)) (tBl (e2 (eqD false) (eCall 2 F__law_draw (aCons (eVar 0) (aCons (eC (.int 2)) aNil))) (eC (.int 0))))) (sAsg (e2 (addD false) (eVar 6) (eLc true (aRng rng1 (aCons (eVar 1) aNil)) (gN 12) (tBl (e2 (eqD false) (eCall 2 F__law_draw (aCons (eVar 0) (aCons (eC (.int 4)) aNil))) (eC (.int 0)))) (eTup (aCons (eVar 12) (aCons (eVar 12) aNil))) [12])) (gN 6)) sNx) (sRet (eCall 2 F__law_web (aCons (eVar 1) (aCons (eFz (eVar 6)) aNil)))))))))
noncomputable def F__law_some_web : FF := defF 14 B__law_some_web
noncomputable def B_is_tie : SS := (sSeq (sIf (bOr (bNot (tTru (eB isiD (aCons (eVar 1) (aCons (eC (.ty "tuple")) aNil))))) (bOr (tBl (e2 (eqD true) (eB lenD (aCons (eVar 1) aNil)) (eC (.int 2)))) (bNot (tTru (eB allD (aCons (eLc true (aOf itT (eVar 1)) (gN 2) tYes' (eCall 2 F_is_place (aCons (eVar 0) (aCons (eVar 2) aNil))) [2]) aNil)))))) (sRet (eC (.bl false))) sNx) (sRet (e2 leD (e2 ixD (eVar 1) (eC (.int 0))) (e2 ixD (eVar 1) (eC (.int 1))))))
noncomputable def F_is_tie : FF := defF 3 B_is_tie
noncomputable def B_is_course_in : SS := (sSeq (sIf (bOr (bNot (tTru (eB isiD (aCons (eVar 1) (aCons (eC (.ty "tuple")) aNil))))) (bOr (tBl (e2 (eqD false) (eB lenD (aCons (eVar 1) aNil)) (eC (.int 0)))) (bNot (tTru (eB allD (aCons (eLc true (aOf itT (eVar 1)) (gN 4) tYes' (eCall 2 F_is_place (aCons (e2 ixD (eVar 0) (eC (.int 0))) (aCons (eVar 4) aNil))) [4]) aNil)))))) (sRet (eC (.bl false))) sNx) (sRet (eB allD (aCons (eLc true (aArg zipA (aCons (eVar 1) (aCons (eSlice true (eVar 1) (oSome (eC (.int 1))) oNo) aNil))) (gTupD (gsCons (gN 2) (gsCons (gN 3) gsNil))) tYes' (e2 (inD false) (eTup (aCons (eVar 2) (aCons (eVar 3) aNil))) (e2 ixD (eVar 0) (eC (.int 1)))) [2, 3]) aNil))))
noncomputable def F_is_course_in : FF := defF 5 B_is_course_in
noncomputable def B_is_direction_in : SS := (sSeq (sIf (bOr (bNot (tTru (eB isiD (aCons (eVar 1) (aCons (eC (.ty "tuple")) aNil))))) (tBl (e2 (eqD true) (eB lenD (aCons (eVar 1) aNil)) (eB lenD (aCons (e2 ixD (eVar 0) (eC (.int 1))) aNil))))) (sRet (eC (.bl false))) sNx) (sRet (eB allD (aCons (eLc true (aArg zipA (aCons (e2 ixD (eVar 0) (eC (.int 1))) (aCons (eVar 1) aNil))) (gTupD (gsCons (gN 2) (gsCons (gN 3) gsNil))) tYes' (eCall 2 F_is_item_of (aCons (eVar 2) (aCons (eVar 3) aNil))) [2, 3]) aNil))))
noncomputable def F_is_direction_in : FF := defF 4 B_is_direction_in
noncomputable def B__law_bare : SS := (sRet (eCall 3 F__law_some_web (aCons (eVar 0) (aCons (eVar 1) (aCons (eC (.bl false)) aNil)))))
noncomputable def F__law_bare : FF := defF 2 B__law_bare
noncomputable def B_is_web : SS := (sSeq (sIf (bOr (bNot (tTru (eB isiD (aCons (eVar 0) (aCons (eC (.ty "tuple")) aNil))))) (bOr (tBl (e2 (eqD true) (eB lenD (aCons (eVar 0) aNil)) (eC (.int 2)))) (bOr (bNot (tTru (eCall 1 F_is_count (aCons (e2 ixD (eVar 0) (eC (.int 0))) aNil)))) (bNot (tTru (eB isiD (aCons (e2 ixD (eVar 0) (eC (.int 1))) (aCons (eC (.ty "tuple")) aNil)))))))) (sRet (eC (.bl false))) sNx) (sSeq (sIf (bNot (tTru (eB allD (aCons (eLc true (aOf itT (e2 ixD (eVar 0) (eC (.int 1)))) (gN 1) tYes' (eCall 2 F_is_tie (aCons (e2 ixD (eVar 0) (eC (.int 0))) (aCons (eVar 1) aNil))) [1]) aNil)))) (sRet (eC (.bl false))) sNx) (sRet (eB allD (aCons (eLc true (aArg zipA (aCons (e2 ixD (eVar 0) (eC (.int 1))) (aCons (eSlice true (e2 ixD (eVar 0) (eC (.int 1))) (oSome (eC (.int 1))) oNo) aNil))) (gTupD (gsCons (gN 2) (gsCons (gN 3) gsNil))) tYes' (e2 ltD (eVar 2) (eVar 3)) [2, 3]) aNil)))))
noncomputable def F_is_web : FF := defF 4 B_is_web
noncomputable def B_need_web : SS := (sIf (bNot (tTru (eCall 1 F_is_web (aCons (eVar 0) aNil)))) (sRaise 2 ["web"] (aCons (eVar 0) aNil)) sNx)
noncomputable def F_need_web : FF := defF 1 B_need_web
noncomputable def B_need_hue_web_for1 : SS := (sIf (tBl (e2 (eqD false) (eVar 1) (eVar 2))) (sRaise 4 ["promise", "witness"] (aCons (eC (.str "bare")) (aCons (eVar 1) aNil))) sNx)
noncomputable def B_need_hue_web : SS := (sSeq (sExpr (eCall 1 F_need_web (aCons (eVar 0) aNil))) (sFor (aOf itT (e2 ixD (eVar 0) (eC (.int 1)))) (gTupD (gsCons (gN 1) (gsCons (gN 2) gsNil))) B_need_hue_web_for1))
noncomputable def F_need_hue_web : FF := defF 3 B_need_hue_web
noncomputable def B_are_hues : SS := (sSeq (sExpr (eCall 1 F_need_hue_web (aCons (eVar 0) aNil))) (sRet (eCall 2 F_are_hues_in (aCons (eVar 0) (aCons (eVar 1) aNil)))))
noncomputable def F_are_hues : FF := defF 2 B_are_hues
noncomputable def LB_0 : EE := (eCall 2 F_are_hues (aCons (eVar 0) (aCons (eC .non) aNil)))
noncomputable def LF_0 : FF := lamF 1 LB_0
noncomputable def B_is_direction : SS := (sSeq (sExpr (eCall 1 F_need_hue_web (aCons (eVar 0) aNil))) (sRet (eCall 2 F_is_direction_in (aCons (eVar 0) (aCons (eVar 1) aNil)))))
noncomputable def F_is_direction : FF := defF 2 B_is_direction
noncomputable def LB_1 : EE := (eCall 2 F_is_direction (aCons (eVar 0) (aCons (eC .non) aNil)))
noncomputable def LF_1 : FF := lamF 1 LB_1
noncomputable def B_need_direction : SS := (sSeq (sExpr (eCall 1 F_need_hue_web (aCons (eVar 0) aNil))) (sIf (bNot (tTru (eCall 2 F_is_direction_in (aCons (eVar 0) (aCons (eVar 1) aNil))))) (sRaise 3 ["row"] (aCons (eVar 1) aNil)) sNx))
noncomputable def F_need_direction : FF := defF 2 B_need_direction
noncomputable def B_direction_by : SS := (sSeq (sExpr (eCall 1 F_need_hue_web (aCons (eVar 0) aNil))) (sSeq (sIf (bNot (tTru (eCall 2 F_are_hues_in (aCons (eVar 0) (aCons (eVar 1) aNil))))) (sRaise 3 ["row"] (aCons (eVar 1) aNil)) sNx) (sRet (eCall 2 F_hued_direction (aCons (eVar 0) (aCons (eVar 1) aNil))))))
noncomputable def F_direction_by : FF := defF 2 B_direction_by
noncomputable def LB_3 : EE := (eCall 2 F_direction_by (aCons (eVar 0) (aCons (eC .non) aNil)))
noncomputable def LF_3 : FF := lamF 1 LB_3
noncomputable def B_is_way : SS := (sSeq (sExpr (eCall 2 F_need_direction (aCons (eVar 0) (aCons (eVar 1) aNil)))) (sSeq (sIf (bNot (tTru (eCall 2 F_is_course_in (aCons (eTup (aCons (e2 ixD (eVar 0) (eC (.int 0))) (aCons (eVar 1) aNil))) (aCons (eVar 2) aNil))))) (sRet (eC (.bl false))) sNx) (sRet (e2 (eqD false) (eB lenD (aCons (eDc false (aOf itT (eVar 2)) (gN 3) tYes' (eVar 3) (eC (.bl true)) [3]) aNil)) (eB lenD (aCons (eVar 2) aNil))))))
noncomputable def F_is_way : FF := defF 4 B_is_way
noncomputable def LB_2 : EE := (eCall 3 F_is_way (aCons (eVar 0) (aCons (eC .non) (aCons (eC .non) aNil))))
noncomputable def LF_2 : FF := lamF 1 LB_2
noncomputable def TLam : Nat → Option (Nat × FF)
  | 0 => some (1, LF_0)
  | 1 => some (1, LF_1)
  | 2 => some (1, LF_2)
  | 3 => some (1, LF_3)
  | _ => none
noncomputable def B__law_refused_right_for1 : SS := (sIf (tBl (e2 (eqD true) (eB reprD (aCons (eMet sub0 H__law_met (eCallX 2 (fun _ => none) TLam (aCons (eVar 3) aNil))) aNil)) (eB reprD (aCons (eTup (aCons (eC (.str "BadWeb")) (aCons (eVar 3) aNil))) aNil)))) (sRet (eC (.bl false))) sNx)
noncomputable def B__law_refused_right : SS := (sSeq (sFor (aOf itL (eCall 1 F__law_no_webs (aCons (eVar 1) aNil))) (gN 3) B__law_refused_right_for1) (sSeq (sIf (tBl (e2 gtD (e2 ixD (eVar 1) (eC (.int 0))) (eC (.int 0)))) (sSeq (sPar 6 7 (aCons (eCall 2 F__law_draw (aCons (eVar 0) (aCons (e2 ixD (eVar 1) (eC (.int 0))) aNil))) (aCons (eLc true (aRng rng1 (aCons (e2 ixD (eVar 1) (eC (.int 0))) aNil)) (gN 8) (tBl (e2 (eqD false) (eCall 2 F__law_draw (aCons (eVar 0) (aCons (eC (.int 3)) aNil))) (eC (.int 0)))) (eTup (aCons (eVar 8) (aCons (eVar 8) aNil))) [8]) aNil))) (sSeq (sAsg (eCall 2 F__law_web (aCons (e2 ixD (eVar 1) (eC (.int 0))) (aCons (e2 (addD true) (e2 (addD true) (eB (listD true) (aCons (e2 ixD (eVar 1) (eC (.int 1))) aNil)) (eVar 7)) (eLst true (aCons (eTup (aCons (eVar 6) (aCons (eVar 6) aNil))) aNil))) aNil))) (gN 4)) (sSeq (sAsg (eB minL (aCons (eLc true (aOf itT (e2 ixD (eVar 4) (eC (.int 1)))) (gTupD (gsCons (gN 9) (gsCons (gN 10) gsNil))) (tBl (e2 (eqD false) (eVar 9) (eVar 10))) (eVar 9) [9, 10]) aNil)) (gN 5)) (sRet (e2 (eqD false) (eB reprD (aCons (eMet sub0 H__law_met (eCallX 2 (fun _ => none) TLam (aCons (eVar 4) aNil))) aNil)) (eB reprD (aCons (eTup (aCons (eC (.str "NotKept")) (aCons (eC (.str "bare")) (aCons (eVar 5) aNil)))) aNil))))))) sNx) (sRet (eC (.bl true)))))
noncomputable def F__law_refused_right : FF := defF 11 B__law_refused_right
noncomputable def B_law_for1 : SS := (sSeq (sAsg (eCall 2 F__law_are_hues (aCons (eVar 3) (aCons (eVar 6) aNil))) (gN 13)) (sSeq (sAsg (eTup (aCons (eC (.str "BadRow")) (aCons (eVar 6) aNil))) (gN 14)) (sSeq (sIf (tTru (eVar 13)) (sAsg (eB tupleD (aCons (eLc true (aOf itT (e2 ixD (eVar 3) (eC (.int 1)))) (gN 18) tYes' (eIf (tBl (e2 ltD (e2 ixD (eVar 6) (e2 ixD (eVar 18) (eC (.int 0)))) (e2 ixD (eVar 6) (e2 ixD (eVar 18) (eC (.int 1)))))) (eVar 18) (e1 revD (eVar 18))) [18]) aNil)) (gN 14)) sNx) (sSeq (sIf (tBl (e2 (eqD true) (eB reprD (aCons (eCall 2 F_are_hues (aCons (eVar 3) (aCons (eVar 6) aNil))) aNil)) (eB reprD (aCons (eVar 13) aNil)))) (sRet (eC (.bl false))) sNx) (sIf (tBl (e2 (eqD true) (eB reprD (aCons (eMet sub0 H__law_met (eCall 2 F_direction_by (aCons (eVar 3) (aCons (eVar 6) aNil)))) aNil)) (eB reprD (aCons (eVar 14) aNil)))) (sRet (eC (.bl false))) sNx)))))
noncomputable def B_law_for2 : SS := (sSeq (sAsg (eCall 2 F__law_is_direction (aCons (eVar 3) (aCons (eVar 6) aNil))) (gN 13)) (sSeq (sIf (tBl (e2 (eqD true) (eB reprD (aCons (eCall 2 F_is_direction (aCons (eVar 3) (aCons (eVar 6) aNil))) aNil)) (eB reprD (aCons (eVar 13) aNil)))) (sRet (eC (.bl false))) sNx) (sIf (bAnd (bNot (tTru (eVar 13))) (tBl (e2 (eqD true) (eB reprD (aCons (eMet sub0 H__law_met (eCall 3 F_is_way (aCons (eVar 3) (aCons (eVar 6) (aCons (eC .non) aNil))))) aNil)) (eB reprD (aCons (eTup (aCons (eC (.str "BadRow")) (aCons (eVar 6) aNil))) aNil))))) (sRet (eC (.bl false))) sNx)))
noncomputable def B_law_for3 : SS := (sAsg (e2 (addD true) (eVar 7) (eSlice true (eB sumLsD (aCons (eLc true (aOf itL (eSlice true (eVar 7) (oSome (e1 negD (eC (.int 3)))) oNo)) (gN 16) tYes' (eLc true (aRng rng1 (aCons (eVar 11) aNil)) (gN 19) tYes' (e2 (addD true) (eVar 16) (eTup (aCons (eVar 19) aNil))) [19]) [16]) (aCons (eLst true aNil) aNil))) oNo (oSome (eC (.int 9))))) (gN 7))
noncomputable def B_law_for4 : SS := (sIf (tBl (e2 (eqD true) (eB reprD (aCons (eCall 3 F_is_way (aCons (eVar 3) (aCons (eVar 12) (aCons (eVar 6) aNil)))) aNil)) (eB reprD (aCons (eCall 3 F__law_is_way (aCons (eVar 3) (aCons (eVar 12) (aCons (eVar 6) aNil)))) aNil)))) (sRet (eC (.bl false))) sNx)
noncomputable def B_law_for5 : SS := (sSeq (sAsg (eCall 2 F__law_bare (aCons (eVar 1) (aCons (eCall 2 F__law_draw (aCons (eVar 1) (aCons (eC (.int 9)) aNil))) aNil))) (gN 3)) (sSeq (sAsg (eTup (aCons (e2 ixD (eVar 3) (eC (.int 0))) (aCons (eCall 2 F__law_direction (aCons (eVar 1) (aCons (eVar 3) aNil))) aNil))) (gTupD (gsCons (gN 11) (gsCons (gN 12) gsNil)))) (sSeq (sAsg (eB tupleD (aCons (eSlice true (eCall 2 F__law_shuffled (aCons (eVar 1) (aCons (eListR1 true (e2 (addD true) (eVar 11) (eC (.int 2)))) aNil))) oNo (oSome (eVar 11))) aNil)) (gN 4)) (sSeq (sAsg (eB tupleD (aCons (eLc true (aRng rng1 (aCons (eVar 11) aNil)) (gN 15) tYes' (eCall 2 F__law_draw (aCons (eVar 1) (aCons (eC (.int 3)) aNil))) [15]) aNil)) (gN 5)) (sSeq (sFor (aOf itL (e2 (addD true) (eLst true (aCons (eVar 4) (aCons (eVar 5) aNil))) (eCall 2 F__law_bent (aCons (eVar 1) (aCons (eVar 4) aNil))))) (gN 6) B_law_for1) (sSeq (sFor (aOf itL (e2 (addD true) (eLst true (aCons (eVar 12) (aCons (e2 ixD (eVar 3) (eC (.int 1))) aNil))) (eCall 2 F__law_bent (aCons (eVar 1) (aCons (eVar 12) aNil))))) (gN 6) B_law_for2) (sSeq (sAsg (eLc true (aRng rng1 (aCons (eVar 11) aNil)) (gN 15) tYes' (eTup (aCons (eVar 15) aNil)) [15]) (gN 7)) (sSeq (sFor (aRng rng1 (aCons (eC (.int 3)) aNil)) (gN 8) B_law_for3) (sSeq (sAsg (e2 (addD true) (e2 (addD true) (eLst true (aCons (eC .non) (aCons (eTup aNil) (aCons (eTup (aCons (eVar 11) aNil)) (aCons (eLst true (aCons (eC (.int 0)) aNil)) (aCons (eTup (aCons (eC (.bl true)) aNil)) (aCons (eTup (aCons (eC (.str "0")) aNil)) aNil))))))) (eVar 7)) (eLc true (aOf itL (eSlice true (eVar 7) (oSome (e1 negD (eC (.int 3)))) oNo)) (gN 16) tYes' (e2 (addD true) (eVar 16) (eSlice true (eVar 16) oNo (oSome (eC (.int 1))))) [16])) (gN 9)) (sSeq (sFor (aOf itL (eVar 9)) (gN 6) B_law_for4) (sSeq (sAsg (eLst false (aCons (eLam 0) aNil)) (gN 10)) (sSeq (sExpr (eBM appendD (eVar 10) (aCons (eLam 1) aNil))) (sSeq (sExpr (eBM appendD (eVar 10) (aCons (eLam 2) aNil))) (sSeq (sExpr (eBM appendD (eVar 10) (aCons (eLam 3) aNil))) (sIf (tBl (e2 (eqD true) (eLc true (aOf itL (eFz (eVar 10))) (gN 17) (bNot (tTru (eCall 3 F__law_refused_right (aCons (eVar 1) (aCons (eVar 3) (aCons (eVar 17) aNil)))))) (eVar 17) [17]) (eLst true aNil))) (sRet (eC (.bl false))) sNx)))))))))))))))
noncomputable def B_law : SS := (sSeq (sAsg (eCall 1 F__law_pen (aCons (eVar 0) aNil)) (gN 1)) (sSeq (sFor (aRng rng1 (aCons (e2 (addD true) (eC (.int 3)) (eB min2D (aCons (eC (.int 2)) (aCons (eB lenD (aCons (eVar 0) aNil)) aNil)))) aNil)) (gN 2) B_law_for5) (sRet (eC (.bl true)))))
noncomputable def F_law : FF := defF 20 B_law
end Dl

set_option Elab.async false
set_option linter.all false
set_option autoImplicit false
set_option maxRecDepth 100000
set_option maxHeartbeats 4000000
/-! What the small defs compute. -/
namespace Dl
open PySem PySem.Spec L2
section
variable (M : Mem)
@[simp] theorem ev_isi (d : D) (T : String) : isiD [d, .ty T] M = match tyD M d with
    | some t => if T ∈ tyAsked then .ok (.bl (isiB t T)) M else .no
    | none => .no := rfl
@[simp] theorem ev_notB (b : Bool) : notD (.bl b) M = .ok (.bl (!b)) M := rfl
@[simp] theorem tru_bl (b : Bool) : truD M (.bl b) = some b := rfl
theorem drop_id (d : D) (h : bel M.length d = true) : dropM M d M = M := dropM_same rfl
theorem eq_is_whole (i : Int) : F_is_whole [.int i] M = .ok (.bl true) M := by
  simp [F_is_whole, B_is_whole, defF, startD, tyD, tyAsked, isiB, dropM_same]
theorem eq_is_count (i : Int) : F_is_count [.int i] M = .ok (.bl (decide (0 ≤ i))) M := by
  simp [F_is_count, B_is_count, defF, startD, eq_is_whole, dropM_same]
theorem eq_is_place (n i : Int) : F_is_place [.int n, .int i] M = .ok (.bl (decide (0 ≤ i ∧ i < n))) M := by
  by_cases h : 0 ≤ i
  · simp [F_is_place, B_is_place, defF, startD, eq_is_count, h, dropM_same]
  · simp [F_is_place, B_is_place, defF, startD, eq_is_count, h, dropM_same]
theorem atI0 {α : Type} (x : α) (l : List α) : L2.atI (x :: l) 0 = some x := by rw [show (0 : Int) = ((0 : Nat) : Int) by rfl, atI_nat]; rfl
theorem atI1 {α : Type} (x y : α) (l : List α) : L2.atI (x :: y :: l) 1 = some y := by rw [show (1 : Int) = ((1 : Nat) : Int) by rfl, atI_nat]; rfl
theorem all_mapB {α : Type} (f : α → Bool) (l : List α) : allD [.lst (l.map fun x => D.bl (f x))] M = .ok (.bl (l.all f)) M := by
  have e : (l.map fun x => D.bl (f x)) = (l.map f).map D.bl := by rw [List.map_map]; rfl
  rw [e]
  simp only [allD, getS, getL, Option.bind_some, blsOf_map, Option.map_some, ofO_some, List.all_map]
  rfl
theorem eq_is_tie {n : Nat} {t : Tie} (h : t.1 ≤ t.2 ∧ t.2 < n) : F_is_tie [.int n, tieD t] M = .ok (.bl true) M := by
  obtain ⟨a, b⟩ := t
  have e : compL (gN 2) tYes' (eCall 2 F_is_place (aCons (eVar 0) (aCons (eVar 2) aNil))) [some (.int n), some (.tup [.int a, .int b]), none] [.int a, .int b] M [] = .ok [.bl true, .bl true] M := by
    have h1 : (a : Int) < n := by have := h.1; have := h.2; simp only at *; omega
    have h2 : (b : Int) < n := by have := h.2; simp only at *; omega
    simp [compL, eq_is_place, h1, h2, sizeLine_eq]
  have h3 : (a : Int) ≤ b := by have := h.1; simp only at *; omega
  simp [F_is_tie, B_is_tie, defF, startD, tieD, tyD, tyAsked, isiB, itT, wipeD, e, mkL_true, allD, getS, getL, blsOf, atI0, atI1, h3, sizeLine_eq, dropM_same]
theorem atI_1m {α : Type} (x y : α) : L2.atI [x, y] 1 = some y := atI1 x y []
/-- pairs of neighbours in order -/
theorem zip_pw {ts : List Tie} (h : ts.Pairwise tlt) : ∀ p ∈ ts.zip (ts.drop 1), tlt p.1 p.2 := by
  induction ts with
  | nil => intro p hp; simp at hp
  | cons t ts ih =>
    rw [List.pairwise_cons] at h
    intro p hp
    cases ts with
    | nil => simp at hp
    | cons u us =>
      rw [List.drop_succ_cons, List.drop_zero, List.zip_cons_cons] at hp
      rcases List.mem_cons.mp hp with rfl | hp
      · exact h.1 u List.mem_cons_self
      · exact ih h.2 p (by rw [List.drop_succ_cons, List.drop_zero]; exact hp)
theorem eq_is_web {n : Nat} {ts : List Tie} (w : Web n ts) (hl : ts.length ≤ 1000) : F_is_web [webD n ts] M = .ok (.bl true) M := by
  have c1' : compL (gN 1) tYes' (eCall 2 F_is_tie (aCons (e2 ixD (eVar 0) (eC (.int 0))) (aCons (eVar 1) aNil))) (wipeD [some (webD n ts), none, none, none] [1]) (ts.map tieD) M [] = .ok ((ts.map tieD).map fun _ => D.bl true) M := by
    refine (compL_map (fun _ => D.bl true) (by simp; omega) fun d hd => ?_).trans (by simp)
    obtain ⟨t, ht, rfl⟩ := List.mem_map.mp hd
    refine ⟨_, rfl, rfl, ?_⟩
    simp [wipeD, webD, atI0, eq_is_tie M (w.ok t ht)]
  have c2' : compL (gTupD (gsCons (gN 2) (gsCons (gN 3) gsNil))) tYes' (e2 ltD (eVar 2) (eVar 3)) (wipeD [some (webD n ts), none, none, none] [2, 3]) (((ts.map tieD).zip ((ts.map tieD).drop 1)).map fun p => D.tup [p.1, p.2]) M [] = .ok ((ts.zip (ts.drop 1)).map fun _ => D.bl true) M := by
    have e : ((ts.map tieD).zip ((ts.map tieD).drop 1)).map (fun p => D.tup [p.1, p.2]) = (ts.zip (ts.drop 1)).map fun p => D.tup [tieD p.1, tieD p.2] := by
      rw [← List.map_drop, List.zip_map, List.map_map]
      rfl
    rw [e]
    refine (compL_map (fun _ => D.bl true) (by simp; omega) fun d hd => ?_).trans (by simp)
    obtain ⟨t, ht, rfl⟩ := List.mem_map.mp hd
    have hlt := zip_pw w.srt t ht
    refine ⟨_, rfl, rfl, ?_⟩
    simp [wipeD, ev_ltT, hlt]
  have l1 : (ts.map tieD).length ≤ sizeLine := by simp [sizeLine_eq]; omega
  have a1 : allD [.lst ((ts.map tieD).map fun _ => D.bl true)] M = .ok (.bl true) M := by
    rw [show ((ts.map tieD).map fun _ => D.bl true) = (ts.map tieD).map (fun x => D.bl ((fun _ => true) x)) by rfl, all_mapB]; simp
  have a2 : allD [.lst ((ts.zip (ts.drop 1)).map fun _ => D.bl true)] M = .ok (.bl true) M := by
    rw [show ((ts.zip (ts.drop 1)).map fun _ => D.bl true) = (ts.zip (ts.drop 1)).map (fun x => D.bl ((fun _ => true) x)) by rfl, all_mapB]; simp
  have z : zipA [.tup (ts.map tieD), .tup (cutD (ts.map tieD) (some 1) none)] M = some (((ts.map tieD).zip ((ts.map tieD).drop 1)).map fun p => D.tup [p.1, p.2]) := by
    rw [cut_from]; rfl
  have m1 := mkL_true M ((ts.map tieD).map fun _ => D.bl true) (by rw [List.length_map]; exact l1)
  have m2 := mkL_true M ((ts.zip (ts.drop 1)).map fun _ => D.bl true) (by rw [List.length_map, List.length_zip, List.length_drop]; rw [List.length_map] at l1; omega)
  have sl : sliceD true (.tup (ts.map tieD)) (some 1) none M = .ok (.tup (cutD (ts.map tieD) (some 1) none)) M := rfl
  have hw : webD n ts = .tup [.int n, .tup (ts.map tieD)] := rfl
  rw [hw] at c1' c2' ⊢
  simp [F_is_web, B_is_web, defF, startD, tyD, tyAsked, isiB, atI0, atI1, eq_is_count, itT, c1', m1, a1, sl, z, c2', m2, a2, dropM_same, -List.map_map, -List.map_const', -List.drop_one]
theorem eq_need_web {n : Nat} {ts : List Tie} (w : Web n ts) (hl : ts.length ≤ 1000) : F_need_web [webD n ts] M = .ok .non M := by
  simp [F_need_web, B_need_web, defF, startD, eq_is_web M w hl, dropM_same]
end
end Dl

set_option Elab.async false
set_option linter.all false
set_option autoImplicit false
set_option maxRecDepth 100000
set_option maxHeartbeats 4000000
/-! near_in. -/
namespace Dl
open PySem PySem.Spec L2
def adj (ts : List Tie) (p q : Nat) : Bool := decide ((p, q) ∈ ts ∨ (q, p) ∈ ts)
def nearL (n : Nat) (ts : List Tie) (p : Nat) : List Nat := (List.range n).filter (adj ts p)
def natsD (l : List Nat) : List D := l.map fun (q : Nat) => D.int q
def nearD (n : Nat) (ts : List Tie) : D := .lst ((List.range n).map fun p => D.lst (natsD (nearL n ts p)))
theorem natsD_ints (l : List Nat) : natsD l = (l.map fun (q : Nat) => (q : Int)).map D.int := by simp [natsD]
theorem bels_map {α : Type} (n : Nat) (f : α → D) (l : List α) (h : ∀ x ∈ l, bel n (f x) = true) : bels n (l.map f) = true := by
  rw [bels_iff]
  intro d hd
  obtain ⟨x, hx, rfl⟩ := List.mem_map.mp hd
  exact h x hx
theorem bel_nats (n : Nat) (l : List Nat) : bels n (natsD l) = true := bels_map n _ l fun _ _ => by rw [bel] <;> simp
theorem bel_near (k n : Nat) (ts : List Tie) : bel k (nearD n ts) = true := by
  rw [nearD, bel]
  exact bels_map k _ _ fun p _ => by rw [bel]; exact bel_nats k _
/-! ### the dicts -/
def kvT (q : Nat) : Key × D := (Sum.inl (q : Int), D.bl true)
def dm (n : Nat) (K : Nat → List Nat) : Mem := (List.range n).map fun p => Ob.dK ((K p).map kvT)
def upK (K : Nat → List Nat) (a b : Nat) : Nat → List Nat := fun p => if p = a then (if b ∈ K a then K a else K a ++ [b]) else K p
theorem dm_len (n : Nat) (K : Nat → List Nat) : (dm n K).length = n := by simp [dm]
theorem dm_get {M : Mem} {n a : Nat} {K : Nat → List Nat} (h : a < n) : (M ++ dm n K)[M.length + a]? = some (.dK ((K a).map kvT)) := by
  rw [List.getElem?_append_right (by omega)]
  simp [dm, h]
theorem dm_set {M : Mem} {n a b : Nat} {K : Nat → List Nat} (h : a < n) : (M ++ dm n K).set (M.length + a) (.dK ((upK K a b a).map kvT)) = M ++ dm n (upK K a b) := by
  apply List.ext_getElem?
  intro i
  by_cases hi : i < M.length
  · rw [List.getElem?_set_ne (by omega), List.getElem?_append_left hi, List.getElem?_append_left hi]
  · by_cases hia : i = M.length + a
    · subst hia
      rw [List.getElem?_set_self (by simp [dm_len]; exact h), dm_get h]
    · rw [List.getElem?_set_ne (by omega), List.getElem?_append_right (by omega), List.getElem?_append_right (by omega)]
      simp only [dm, List.getElem?_map]
      by_cases h2 : i - M.length < n
      · rw [List.getElem?_range h2]
        simp only [Option.map_some, upK]
        rw [if_neg (by omega)]
      · rw [List.getElem?_eq_none (by simp; omega)]
        rfl
theorem any_kvT (l : List Nat) (b : Nat) : (l.map kvT).any (fun kv => decide (kv.1 = Sum.inl (b : Int))) = decide (b ∈ l) := by
  induction l with
  | nil => simp
  | cons x l ih =>
    rw [List.map_cons, List.any_cons, ih]
    by_cases h : x = b
    · subst h; simp [kvT]
    · have h2 : ¬ b = x := fun e => h e.symm
      have : ¬ (x : Int) = b := by omega
      simp [kvT, h2, this]
theorem put_kvT (l : List Nat) (b : Nat) : putD (l.map kvT) (Sum.inl (b : Int)) (D.bl true) = (if b ∈ l then l else l ++ [b]).map kvT := by
  unfold putD
  rw [any_kvT]
  by_cases h : b ∈ l
  · simp only [h, decide_true, if_true, List.map_map]
    apply List.map_congr_left
    intro x hx
    simp only [Function.comp, kvT]
    exact ite_self _
  · simp [h, kvT]
theorem set_dm {M : Mem} {n a b : Nat} {K : Nat → List Nat} (h : a < n) (hl : (K a).length < 100000) : setD (.ref (M.length + a)) (.int b) (.bl true) (M ++ dm n K) = some (M ++ dm n (upK K a b)) := by
  have e : keyOf (.int (b : Int)) = some (Sum.inl (b : Int)) := rfl
  simp only [setD, dm_get h, e, List.length_map]
  rw [if_pos (by have := sizeLine_eq; simp; omega), put_kvT]
  have := dm_set (M := M) (n := n) (a := a) (b := b) (K := K) h
  simp only [upK, if_true] at this
  exact congrArg some this
/-- what the dicts hold behind some ties -/
structure KInv (n : Nat) (ts : List Tie) (K : Nat → List Nat) : Prop where
  nd : ∀ p, (K p).Nodup
  mem : ∀ p q, q ∈ K p ↔ ((p, q) ∈ ts ∨ (q, p) ∈ ts)
  lt : ∀ p q, q ∈ K p → q < n
theorem upK_nodup {K : Nat → List Nat} (a b : Nat) (h : ∀ p, (K p).Nodup) : ∀ p, (upK K a b p).Nodup := by
  intro p
  unfold upK
  split
  · split
    · exact h a
    · rename_i hb
      exact List.nodup_append.mpr ⟨h a, by simp, fun x hx y hy e => by simp at hy; subst hy; subst e; exact hb hx⟩
  · exact h p
theorem upK_mem {K : Nat → List Nat} (a b p q : Nat) : q ∈ upK K a b p ↔ (q ∈ K p ∨ (p = a ∧ q = b)) := by
  unfold upK
  split
  · rename_i h
    subst h
    split
    · rename_i hb
      constructor
      · exact .inl
      · rintro (h | ⟨_, rfl⟩)
        · exact h
        · exact hb
    · simp
  · rename_i h
    constructor
    · exact .inl
    · rintro (h2 | ⟨h2, _⟩)
      · exact h2
      · exact absurd h2 h
theorem kinv_step {n : Nat} {ts : List Tie} {K : Nat → List Nat} (h : KInv n ts K) (t : Tie) (ht : t.1 < n ∧ t.2 < n) : KInv n (ts ++ [t]) (upK (upK K t.1 t.2) t.2 t.1) := by
  refine ⟨upK_nodup _ _ (upK_nodup _ _ h.nd), fun p q => ?_, fun p q hq => ?_⟩
  · rw [upK_mem, upK_mem, h.mem]
    obtain ⟨a, b⟩ := t
    simp only [List.mem_append, List.mem_singleton, Prod.mk.injEq]
    constructor
    · rintro (((h | h) | ⟨rfl, rfl⟩) | ⟨rfl, rfl⟩)
      · exact .inl (.inl h)
      · exact .inr (.inl h)
      · exact .inl (.inr ⟨rfl, rfl⟩)
      · exact .inr (.inr ⟨rfl, rfl⟩)
    · rintro ((h | ⟨rfl, rfl⟩) | (h | ⟨rfl, rfl⟩))
      · exact .inl (.inl (.inl h))
      · exact .inl (.inr ⟨rfl, rfl⟩)
      · exact .inl (.inl (.inr h))
      · exact .inr ⟨rfl, rfl⟩
  · rw [upK_mem, upK_mem] at hq
    rcases hq with (h1 | ⟨_, rfl⟩) | ⟨_, rfl⟩
    · exact h.lt p q h1
    · exact ht.2
    · exact ht.1
theorem nodup_len {l : List Nat} {n : Nat} (h : l.Nodup) (hl : ∀ q ∈ l, q < n) : l.length ≤ n := by
  have e : l.Perm ((List.range n).filter fun q => decide (q ∈ l)) := by
    rw [List.perm_ext_iff_of_nodup h (List.nodup_range.filter _)]
    intro a
    simp only [List.mem_filter, List.mem_range, decide_eq_true_eq]
    exact ⟨fun h => ⟨hl a h, h⟩, fun h => h.2⟩
  rw [e.length_eq]
  exact Nat.le_trans (List.length_filter_le _ _) (by simp)
theorem perm_near {n : Nat} {ts : List Tie} {K : Nat → List Nat} (h : KInv n ts K) (p : Nat) : (K p).Perm (nearL n ts p) := by
  unfold nearL
  rw [List.perm_ext_iff_of_nodup (h.nd p) (List.nodup_range.filter _)]
  intro q
  simp only [List.mem_filter, List.mem_range, adj, decide_eq_true_eq]
  exact ⟨fun hq => ⟨h.lt p q hq, (h.mem p q).mp hq⟩, fun hq => (h.mem p q).mpr hq.2⟩
theorem sorted_filter (n : Nat) (f : Nat → Bool) : (((List.range n).filter f).map fun (q : Nat) => (q : Int)).Pairwise (· < ·) := by
  rw [List.pairwise_map]
  exact (List.pairwise_lt_range.filter f).imp fun {a b} h => by omega
section
variable (M : Mem)
theorem range1 (n : Nat) (h : n ≤ 100000) : rng1 [.int n] = some ((List.range n).map fun (i : Nat) => D.int i) := by
  show (if rok n = true then some (rangeD 0 (n : Int).toNat) else none) = _
  rw [if_pos (by unfold rok; simp; omega)]
  simp [rangeD]
theorem near_c1 (n : Nat) (hn : n ≤ 1000) (δ : Loc) : ∃ M', compL (gN 4) tYes' (eDn false) δ ((List.range n).map fun (i : Nat) => D.int i) M [] = .ok ((List.range n).map fun j => D.ref (M.length + j)) M' ∧ M' = M ++ dm n (fun _ => []) := by
  obtain ⟨ys, M', e, ⟨h1, h2⟩, _⟩ := compL_inv (gm := gN 4) (tt := tYes') (el := eDn false) (δ := δ) (items := (List.range n).map fun (i : Nat) => D.int i)
      (fun i M' ys => M' = M ++ List.replicate i (.dK []) ∧ ys = (List.range i).map fun j => D.ref (M.length + j)) (M := M) ⟨by simp, by simp⟩ (by rw [List.length_map, List.length_range]; omega) (fun i d M' acc hd ⟨h1, h2⟩ => by
        refine ⟨_, _, true, _, rfl, rfl, (fun h => nomatch h), fun _ => ⟨_, _, rfl, ?_, ?_⟩⟩
        · rw [h1, List.append_assoc]; congr 1; rw [List.replicate_succ']; rfl
        · rw [h2, h1, List.range_succ, List.map_append]; simp)
  rw [List.length_map, List.length_range] at h1 h2
  refine ⟨M', by rw [e, h2], ?_⟩
  rw [h1]
  congr 1
  simp [dm, List.map_const']
theorem near_c3 {n : Nat} {ts : List Tie} {K : Nat → List Nat} (hK : KInv n ts K) (hn : n ≤ 1000) (x y z u v t : Option D) :
    compL (gN 5) tYes' (eB (sortedD true) (aCons (eVar 5) aNil)) [x, y, z, u, v, t] ((List.range n).map fun j => D.ref (M.length + j)) (M ++ dm n K) [] = .ok ((List.range n).map fun p => D.lst (natsD (nearL n ts p))) (M ++ dm n K) := by
  have := compL_map (gm := gN 5) (tt := tYes') (el := eB (sortedD true) (aCons (eVar 5) aNil)) (δ := [x, y, z, u, v, t]) (M := M ++ dm n K) (items := (List.range n).map fun j => D.ref (M.length + j)) (acc := [])
      (fun d => match d with | .ref k => D.lst (natsD (nearL n ts (k - M.length))) | d => d) (by rw [List.length_map, List.length_range, List.length_nil]; omega) (fun d hd => by
        obtain ⟨p, hp, rfl⟩ := List.mem_map.mp hd
        have hp' : p < n := List.mem_range.mp hp
        refine ⟨_, rfl, rfl, ?_⟩
        have ks : keysD (M ++ dm n K) (.ref (M.length + p)) = some (((K p).map fun (q : Nat) => (q : Int)).map D.int) := by
          simp only [keysD, dm_get hp', List.map_map]
          rfl
        have gs : getS (M ++ dm n K) (.ref (M.length + p)) = none := by
          simp only [getS, getL, dm_get hp']
        have st := sortL_ints (M ++ dm n K) (l := (K p).map fun (q : Nat) => (q : Int)) (ts := (nearL n ts p).map fun (q : Nat) => (q : Int)) ((perm_near hK p).map _) (sorted_filter n _) (by rw [List.length_map]; have := nodup_len (hK.nd p) (hK.lt p); omega)
        show sortedD true [.ref (M.length + p)] (M ++ dm n K) = .ok (D.lst (natsD (nearL n ts (M.length + p - M.length)))) _
        rw [Nat.add_sub_cancel_left, natsD_ints]
        unfold sortedD
        simp only [gs, ks, st])
  rw [this, List.map_map, List.nil_append]
  congr 1
  apply List.map_congr_left
  intro p _
  show D.lst (natsD (nearL n ts (M.length + p - M.length))) = _
  rw [Nat.add_sub_cancel_left]
end
end Dl

set_option Elab.async false
set_option linter.all false
set_option autoImplicit false
set_option maxRecDepth 100000
set_option maxHeartbeats 4000000
/-! Sums of webs, vectors, counts. -/
namespace Dl
noncomputable section
open PySem PySem.Spec L2
def shift (n : Nat) (t : Tie) : Tie := (t.1 + n, t.2 + n)
def vecD (n : Nat) (v : Nat → Int) : D := .lst ((List.range n).map fun p => D.int (v p))
def sumN (n : Nat) (f : Nat → Int) : Int := ((List.range n).map f).sum
def nv (n : Nat) (ts : List Tie) (v : Nat → Int) : Nat → Int := fun p => ((nearL n ts p).map v).sum
def wv (n : Nat) (ts : List Tie) : Nat → Nat → Int
  | 0 => fun _ => 1
  | k + 1 => nv n ts (wv n ts k)
def ee (p : Nat) : Nat → Int := fun q => if q = p then 1 else 0
def rv (n : Nat) (ts : List Tie) (p : Nat) : Nat → Nat → Int
  | 0 => ee p
  | k + 1 => nv n ts (rv n ts p k)
def cW (n : Nat) (ts : List Tie) (k : Nat) : Int := sumN n (wv n ts k)
def cR (n : Nat) (ts : List Tie) (k : Nat) : Int := sumN n fun p => rv n ts p k p
def cS (n : Nat) (ts : List Tie) (k : Nat) : Int := sumN n fun p => ((nearL n ts p).length : Int) ^ k
def cntL (most : Nat) (c : Nat → Int) : List D := (List.range (most + 1)).map fun k => D.int (c k)
section
variable (M : Mem)
theorem small_nat {n : Nat} (h : n ≤ 1000000) : small (n : Int) = true := by
  unfold small
  rw [cdec_iff]
  omega
theorem shift_tlt {n : Nat} {s t : Tie} (h : tlt s t) : tlt (shift n s) (shift n t) := by unfold tlt shift at *; simp only; omega
theorem web_beside {n m : Nat} {ts us : List Tie} (w : Web n ts) (v : Web m us) : Web (n + m) (ts ++ us.map (shift n)) := by
  refine ⟨fun t ht => ?_, ?_⟩
  · rcases List.mem_append.mp ht with h | h
    · have := w.ok t h; omega
    · obtain ⟨u, hu, rfl⟩ := List.mem_map.mp h
      have := v.ok u hu
      unfold shift
      simp only
      omega
  · rw [List.pairwise_append]
    refine ⟨w.srt, ?_, fun a ha b hb => ?_⟩
    · rw [List.pairwise_map]
      exact v.srt.imp shift_tlt
    · obtain ⟨u, hu, rfl⟩ := List.mem_map.mp hb
      have := w.ok a ha
      unfold tlt shift
      simp only
      omega
theorem sum_ints (l : List Int) : sumD [.lst (l.map D.int)] M = .ok (.int l.sum) M := by
  simp [sumD, getS, getL, intsOf_map, -List.map_map]
theorem vec_get {n : Nat} {v : Nat → Int} {q : Nat} (h : q < n) : L2.atI ((List.range n).map fun p => D.int (v p)) (q : Int) = some (.int (v q)) := by
  rw [atI_nat]; simp [h]
end
end
end Dl

set_option Elab.async false
set_option linter.all false
set_option autoImplicit false
set_option maxRecDepth 100000
set_option maxHeartbeats 4000000
/-! walks, rounds, stars. -/
namespace Dl
noncomputable section
open PySem PySem.Spec L2
theorem get_new (M : Mem) (o : Ob) : (M ++ [o])[M.length]? = some o := by
  rw [List.getElem?_append_right (Nat.le_refl _)]; simp
theorem set_new (M : Mem) (o o' : Ob) : (M ++ [o]).set M.length o' = M ++ [o'] := by
  rw [List.set_append_right _ _ (Nat.le_refl _)]; simp
theorem range1' (k : Nat) (h : k ≤ 10000) : rng1 [.int ((k : Int) + 1)] = some ((List.range (k + 1)).map fun (i : Nat) => D.int i) := by
  have := range1 (k + 1) (show k + 1 ≤ 100000 by omega)
  simpa using this
theorem bel_ints (n : Nat) (l : List D) (h : ∀ d ∈ l, ∃ i, d = .int i) : bels n l = true := by
  rw [bels_iff]
  intro d hd
  obtain ⟨i, rfl⟩ := h d hd
  rw [bel] <;> simp
section
variable (M : Mem)
theorem sum_vec (n : Nat) (v : Nat → Int) : sumD [vecD n v] M = .ok (.int (sumN n v)) M := by
  have := sum_ints M ((List.range n).map v)
  rw [List.map_map] at this
  exact this
theorem ones (n : Nat) (hn : n ≤ 1000) : mulD true (.lst [.int 1]) (.int n) M = .ok (vecD n fun _ => 1) M := by
  have e : (List.replicate n [D.int 1]).flatten = (List.range n).map fun _ => D.int 1 := by
    rw [List.map_const']; simp
  unfold mulD
  simp only [getL, Int.toNat_natCast]
  rw [if_pos (by rw [cdec_iff]; have := sizeLine_eq; simp; omega), e, mkL_true _ _ (by simp [sizeLine_eq]; omega)]
  rfl
/-! rounds -/
def fl (m : Nat) (c : Nat → Int) : List D := (List.range m).map fun k => D.int (c k)
theorem fl_congr {m : Nat} {c d : Nat → Int} (h : ∀ k, k < m → c k = d k) : fl m c = fl m d := by
  unfold fl
  apply List.map_congr_left
  intro k hk
  rw [h k (List.mem_range.mp hk)]
theorem fl_set {m k : Nat} {c : Nat → Int} (x : Int) : (fl m c).set k (.int x) = fl m fun j => if j = k then x else c j := by
  apply List.ext_getElem?
  intro i
  unfold fl
  by_cases h : k = i
  · subst h
    by_cases hk : k < m
    · rw [List.getElem?_set_self (by simpa using hk)]; simp [hk]
    · rw [List.getElem?_eq_none (by simp; omega), List.getElem?_eq_none (by simp; omega)]
  · rw [List.getElem?_set_ne h]
    by_cases hi : i < m
    · have h2 : ¬ i = k := fun e => h e.symm
      simp [hi, h2]
    · rw [List.getElem?_eq_none (by simp; omega), List.getElem?_eq_none (by simp; omega)]
theorem unit_vec (n p : Nat) (hn : n ≤ 1000) (δ : Loc) (h3 : δ[3]? = some (some (.int p))) (hl : δ.length = 9) : compL (gN 8) tYes' (eIf (tBl (e2 (eqD false) (eVar 8) (eVar 3))) (eC (.int 1)) (eC (.int 0))) δ ((List.range n).map fun (i : Nat) => D.int i) M [] = .ok ((List.range n).map fun q => D.int (ee p q)) M := by
  have := compL_map (gm := gN 8) (tt := tYes') (el := eIf (tBl (e2 (eqD false) (eVar 8) (eVar 3))) (eC (.int 1)) (eC (.int 0))) (δ := δ) (M := M) (items := (List.range n).map fun (i : Nat) => D.int i) (acc := [])
    (fun d => match d with | .int i => .int (ee p i.toNat) | d => d) (by rw [List.length_map, List.length_range, List.length_nil]; omega) (fun d hd => by
      obtain ⟨q, hq, rfl⟩ := List.mem_map.mp hd
      refine ⟨_, rfl, rfl, ?_⟩
      have g8 : (δ.set 8 (some (.int (q : Int))))[8]? = some (some (.int (q : Int))) := List.getElem?_set_self (by omega)
      have g3 : (δ.set 8 (some (.int (q : Int))))[3]? = some (some (.int (p : Int))) := by rw [List.getElem?_set_ne (by omega)]; exact h3
      simp only [ev_if, ev_tBl, ev_e2, ev_var, g8, g3, Rs.bind_ok, ev_eqI]
      by_cases h : q = p
      · subst h; simp [ee]
      · have : ¬ (q : Int) = p := by omega
        simp [ee, h, this])
  rw [this, List.nil_append, List.map_map]
  congr 1
theorem zeros (m : Nat) (hm : m ≤ 1001) : mulD false (.lst [.int 0]) (.int m) M = .ok (.ref M.length) (M ++ [Ob.lst (fl m fun _ => 0)]) := by
  have e : (List.replicate m [D.int 0]).flatten = fl m fun _ => 0 := by
    unfold fl
    rw [List.map_const']; simp
  unfold mulD
  simp only [getL, Int.toNat_natCast]
  rw [if_pos (by rw [cdec_iff]; have := sizeLine_eq; simp; omega), e, mkL_false _ _ (by simp [sizeLine_eq, fl]; omega)]
/-! stars -/
end
end
end Dl

set_option Elab.async false
set_option linter.all false
set_option autoImplicit false
set_option maxRecDepth 100000
set_option maxHeartbeats 4000000
/-! counts and gaps. -/
namespace Dl
noncomputable section
open PySem PySem.Spec L2
/-! bounds -/
theorem sum_bound {l : List Nat} {f : Nat → Int} {B : Int} (h : ∀ q ∈ l, 0 ≤ f q ∧ f q ≤ B) : 0 ≤ (l.map f).sum ∧ (l.map f).sum ≤ l.length * B := by
  induction l with
  | nil => simp
  | cons q l ih =>
    obtain ⟨h1, h2⟩ := ih fun x hx => h x (List.mem_cons_of_mem _ hx)
    obtain ⟨h3, h4⟩ := h q List.mem_cons_self
    rw [List.map_cons, List.sum_cons, List.length_cons]
    refine ⟨by omega, ?_⟩
    have e : ((l.length + 1 : Nat) : Int) * B = l.length * B + B := by rw [Int.natCast_add, Int.add_mul]; simp
    omega
theorem near_len (n : Nat) (ts : List Tie) (p : Nat) : (nearL n ts p).length ≤ n := by unfold nearL; exact Nat.le_trans (List.length_filter_le _ _) (by simp)
theorem near_lt {n : Nat} {ts : List Tie} {p q : Nat} (h : q ∈ nearL n ts p) : q < n := List.mem_range.mp (List.mem_filter.mp h).1
theorem nv_bound {n : Nat} {ts : List Tie} {v : Nat → Int} {B : Int} (hB : 0 ≤ B) (h : ∀ q, q < n → 0 ≤ v q ∧ v q ≤ B) (p : Nat) : 0 ≤ nv n ts v p ∧ nv n ts v p ≤ n * B := by
  obtain ⟨h1, h2⟩ := sum_bound (l := nearL n ts p) (f := v) (B := B) fun q hq => h q (near_lt hq)
  refine ⟨h1, Int.le_trans h2 (Int.mul_le_mul_of_nonneg_right ?_ hB)⟩
  have := near_len n ts p
  omega
theorem pow_nonneg' (n k : Nat) : (0 : Int) ≤ (n : Int) ^ k := by
  have : ((n : Int) ^ k) = ((n ^ k : Nat) : Int) := by simp
  rw [this]; omega
theorem wv_bound {n : Nat} {ts : List Tie} : ∀ (k p : Nat), 0 ≤ wv n ts k p ∧ wv n ts k p ≤ (n : Int) ^ k
  | 0, p => by simp [wv]
  | k + 1, p => by
    have := nv_bound (n := n) (ts := ts) (v := wv n ts k) (pow_nonneg' n k) (fun q _ => wv_bound k q) p
    rw [Int.pow_succ, Int.mul_comm]
    exact this
theorem rv_bound {n : Nat} {ts : List Tie} (p : Nat) : ∀ (k q : Nat), 0 ≤ rv n ts p k q ∧ rv n ts p k q ≤ (n : Int) ^ k
  | 0, q => by
    show 0 ≤ ee p q ∧ ee p q ≤ (n : Int) ^ 0
    unfold ee
    split <;> simp
  | k + 1, q => by
    have := nv_bound (n := n) (ts := ts) (v := rv n ts p k) (pow_nonneg' n k) (fun q _ => rv_bound p k q) q
    rw [Int.pow_succ, Int.mul_comm]
    exact this
theorem sumN_bound {n : Nat} {f : Nat → Int} {B : Int} (h : ∀ q, q < n → 0 ≤ f q ∧ f q ≤ B) : 0 ≤ sumN n f ∧ sumN n f ≤ n * B := by
  have := sum_bound (l := List.range n) (f := f) (B := B) fun q hq => h q (List.mem_range.mp hq)
  simpa [sumN] using this
theorem cW_bound (n : Nat) (ts : List Tie) (k : Nat) : 0 ≤ cW n ts k ∧ cW n ts k ≤ (n : Int) * (n : Int) ^ k := sumN_bound fun q _ => wv_bound k q
theorem cR_bound (n : Nat) (ts : List Tie) (k : Nat) : 0 ≤ cR n ts k ∧ cR n ts k ≤ (n : Int) * (n : Int) ^ k := sumN_bound fun q _ => rv_bound q k q
theorem cS_bound (n : Nat) (ts : List Tie) (k : Nat) : 0 ≤ cS n ts k ∧ cS n ts k ≤ (n : Int) * (n : Int) ^ k := sumN_bound fun q _ => by
  have h1 := near_len n ts q
  have e1 : ((nearL n ts q).length : Int) ^ k = (((nearL n ts q).length ^ k : Nat) : Int) := by simp
  have e2 : ((n : Int) ^ k) = ((n ^ k : Nat) : Int) := by simp
  have := Nat.pow_le_pow_left h1 k
  rw [e1, e2]
  omega
/-- few places, few steps: small numbers -/
theorem bound_small {n k : Nat} {x : Int} (hn : n ≤ 14) (hk : k ≤ 10) (h : 0 ≤ x ∧ x ≤ (n : Int) * (n : Int) ^ k) : 0 ≤ x ∧ x ≤ 4049565169664 := by
  refine ⟨h.1, Int.le_trans h.2 ?_⟩
  have e : (n : Int) * (n : Int) ^ k = ((n ^ (k + 1) : Nat) : Int) := by rw [Nat.pow_succ, Nat.mul_comm]; simp
  rw [e]
  have h1 : n ^ (k + 1) ≤ 14 ^ (k + 1) := Nat.pow_le_pow_left hn _
  have h2 : 14 ^ (k + 1) ≤ 14 ^ 11 := Nat.pow_le_pow_right (by omega) (by omega)
  have h3 : 14 ^ 11 = 4049565169664 := by decide
  omega
section
variable (M : Mem)
theorem cnt_get {most : Nat} {c : Nat → Int} {k : Nat} (h : k ≤ most) : ixD (.lst (cntL most c)) (.int k) M = .ok (.int (c k)) M := by
  rw [ev_ixL, atI_nat]
  have : k < most + 1 := by omega
  simp [cntL, this]
theorem cnt_getT {most : Nat} {c : Nat → Int} {k : Nat} (h : k ≤ most) : ixD (.tup (cntL most c)) (.int k) M = .ok (.int (c k)) M := by
  rw [ev_ixT, atI_nat]
  have : k < most + 1 := by omega
  simp [cntL, this]
theorem max_nat (a b : Nat) : max2D [.int a, .int b] M = .ok (.int (max a b : Nat)) M := by
  rw [ev_max2]
  by_cases h : a < b
  · have : max a b = b := by omega
    have h2 : (b : Int) > a := by omega
    simp [h2, this]
  · have : max a b = a := by omega
    have h2 : ¬ (b : Int) > a := by omega
    simp [h2, this]
end
end
end Dl

set_option Elab.async false
set_option linter.all false
set_option autoImplicit false
set_option maxRecDepth 100000
set_option maxHeartbeats 4000000
/-! webs made of ties: web_in, renamed, _law_web. -/
namespace Dl
noncomputable section
open PySem PySem.Spec L2
def norm (t : Tie) : Tie := (min t.1 t.2, max t.1 t.2)
def insT (l : List Tie) (t : Tie) : List Tie := if t ∈ l then l else l ++ [t]
def insAll (l ps : List Tie) : List Tie := ps.foldl insT l
def keyT (t : Tie) : List Key := [Sum.inl (t.1 : Int), Sum.inl (t.2 : Int)]
def kvL (l : List Tie) : List (List Key × D) := l.map fun t => (keyT t, D.bl true)
theorem keyT_inj {s t : Tie} : keyT s = keyT t ↔ s = t := by
  obtain ⟨a, b⟩ := s
  obtain ⟨c, d⟩ := t
  simp [keyT]
  omega
theorem any_kvL (l : List Tie) (t : Tie) : (kvL l).any (fun kv => decide (kv.1 = keyT t)) = decide (t ∈ l) := by
  induction l with
  | nil => simp [kvL]
  | cons x l ih =>
    unfold kvL at ih ⊢
    rw [List.map_cons, List.any_cons, ih]
    by_cases h : x = t
    · subst h; simp
    · have h2 : ¬ t = x := fun e => h e.symm
      have h3 : ¬ keyT x = keyT t := fun e => h (keyT_inj.mp e)
      simp [h2, h3]
theorem put_kvL (l : List Tie) (t : Tie) : putD (kvL l) (keyT t) (D.bl true) = kvL (insT l t) := by
  unfold putD
  rw [any_kvL]
  unfold insT
  by_cases h : t ∈ l
  · simp only [h, decide_true, if_true]
    unfold kvL
    rw [List.map_map]
    apply List.map_congr_left
    intro x _
    simp only [Function.comp]
    exact ite_self _
  · simp [h, kvL]
theorem ins_nodup {l : List Tie} (t : Tie) (h : l.Nodup) : (insT l t).Nodup := by
  unfold insT
  split
  · exact h
  · rename_i ht
    exact List.nodup_append.mpr ⟨h, by simp, fun x hx y hy e => by simp at hy; subst hy; subst e; exact ht hx⟩
theorem ins_mem {l : List Tie} {t x : Tie} : x ∈ insT l t ↔ x ∈ l ∨ x = t := by
  unfold insT
  split
  · rename_i h
    constructor
    · exact .inl
    · rintro (h2 | rfl)
      · exact h2
      · exact h
  · simp
theorem insAll_nodup : ∀ (ps : List Tie) {l : List Tie}, l.Nodup → (insAll l ps).Nodup
  | [], _, h => h
  | p :: ps, l, h => insAll_nodup ps (l := insT l p) (ins_nodup p h)
theorem insAll_mem : ∀ (ps : List Tie) {l : List Tie} {x : Tie}, x ∈ insAll l ps ↔ x ∈ l ∨ x ∈ ps
  | [], l, x => by simp [insAll]
  | p :: ps, l, x => by
    have := insAll_mem ps (l := insT l p) (x := x)
    show x ∈ insAll (insT l p) ps ↔ _
    rw [this, ins_mem, List.mem_cons, or_assoc]
theorem insAll_len : ∀ (ps l : List Tie), (insAll l ps).length ≤ l.length + ps.length
  | [], l => Nat.le_refl _
  | p :: ps, l => by
    have h1 := insAll_len ps (insT l p)
    have h2 : (insT l p).length ≤ l.length + 1 := by unfold insT; split <;> simp
    show (insAll (insT l p) ps).length ≤ _
    rw [List.length_cons]
    omega
def srt (l : List Tie) : List Tie := l.mergeSort fun a b => decide (¬ tlt b a)
theorem srt_perm (l : List Tie) : l.Perm (srt l) := (List.mergeSort_perm _ _).symm
theorem srt_pw {l : List Tie} (h : l.Nodup) : (srt l).Pairwise tlt := by
  have h1 : (srt l).Pairwise (fun a b => decide (¬ tlt b a) = true) := List.pairwise_mergeSort (fun a b c => by
      simp only [decide_eq_true_eq]
      unfold tlt; omega) (fun a b => by
      simp only [Bool.or_eq_true, decide_eq_true_eq]
      unfold tlt; omega) l
  have h2 : (srt l).Nodup := (srt_perm l).nodup_iff.mp h
  exact (h1.and h2).imp fun {a b} ⟨x, y⟩ => by
    simp only [decide_eq_true_eq] at x
    by_cases z : tlt a b
    · exact z
    · exact absurd (tie_ext z x) y
/-- the web of some ties -/
def mkT (ps : List Tie) : List Tie := srt (insAll [] ps)
theorem mkT_mem {ps : List Tie} {x : Tie} : x ∈ mkT ps ↔ x ∈ ps := by
  unfold mkT
  rw [← (srt_perm _).mem_iff, insAll_mem]
  simp
theorem mkT_web {n : Nat} {ps : List Tie} (h : ∀ t ∈ ps, t.1 ≤ t.2 ∧ t.2 < n) : Web n (mkT ps) :=
  ⟨fun t ht => h t (mkT_mem.mp ht), srt_pw (insAll_nodup ps List.nodup_nil)⟩
theorem mkT_len (ps : List Tie) : (mkT ps).length ≤ ps.length := by
  have := insAll_len ps []
  unfold mkT
  rw [← (srt_perm _).length_eq]
  simpa using this
/-- a web has few ties -/
theorem pairs_bound {α : Type} [DecidableEq α] : True := trivial
section
variable (M : Mem)
theorem tkey_tie (t : Tie) : tkeyOf (tieD t) = some (keyT t) := rfl
theorem putO_tie (l : List Tie) (t : Tie) (hl : l.length < 1000000) : putO (.dT (kvL l)) (tieD t) (.bl true) = some (.dT (kvL (insT l t))) := by
  unfold putO
  simp only [tkey_tie]
  rw [if_pos (by have := sizeLine_eq; simp [kvL]; omega), put_kvL]
theorem keys_kvL (l : List Tie) : ((kvL l).map fun kv => D.tup (kv.1.map keyD)) = l.map tieD := by
  unfold kvL
  rw [List.map_map]
  apply List.map_congr_left
  intro t _
  rfl
theorem sorted_dict (l : List Tie) (hn : l.Nodup) (hl : l.length ≤ 1000000) : sortedD true [.ref M.length] (M ++ [Ob.dT (kvL l)]) = .ok (.lst ((srt l).map tieD)) (M ++ [Ob.dT (kvL l)]) := by
  have g : getS (M ++ [Ob.dT (kvL l)]) (.ref M.length) = none := by simp only [getS, getL, get_new]
  have k : keysD (M ++ [Ob.dT (kvL l)]) (.ref M.length) = some (l.map tieD) := by simp only [keysD, get_new, keys_kvL]
  unfold sortedD
  simp only [g, k]
  exact sortL_ties _ (srt_perm l) (srt_pw hn) hl
theorem bel_tie (k : Nat) (t : Tie) : bel k (tieD t) = true := by
  rw [tieD, bel]
  exact bel_ints _ _ fun d hd => by
    simp only [List.mem_cons, List.not_mem_nil, or_false] at hd
    rcases hd with rfl | rfl
    · exact ⟨_, rfl⟩
    · exact ⟨_, rfl⟩
theorem bel_web (k n : Nat) (ts : List Tie) : bel k (webD n ts) = true := by
  rw [webD, bel, bels, bels, bels, bel, bel]
  · rw [bels_map k tieD ts fun t _ => bel_tie k t]; rfl
  all_goals simp
/-! _law_web -/
theorem pairsT_ties : ∀ ps : List Tie, pairsT (ps.map fun t => D.tup [tieD t, .bl true]) = some (kvL ps)
  | [] => rfl
  | p :: ps => by
    rw [List.map_cons, pairsT, tkey_tie, pairsT_ties ps]
    rfl
theorem merge_ties : ∀ (ps l : List Tie), (kvL ps).foldl (fun acc kv => putD acc kv.1 kv.2) (kvL l) = kvL (insAll l ps)
  | [], l => rfl
  | p :: ps, l => by
    have ih := merge_ties ps (insT l p)
    show ((kvL ps).foldl (fun acc kv => putD acc kv.1 kv.2) (putD (kvL l) (keyT p) (.bl true))) = _
    rw [put_kvL, ih]
    rfl
theorem eq_law_web (n : Nat) (ps : List Tie) (hl : ps.length ≤ 10000) : F__law_web [.int n, .lst (ps.map tieD)] M = .ok (webD n (mkT ps)) M := by
  have q : compL (gN 2) tYes' (eTup (aCons (eVar 2) (aCons (eC (.bl true)) aNil))) [some (.int n), some (.lst (ps.map tieD)), none] (ps.map tieD) M [] = .ok (ps.map fun t => D.tup [tieD t, .bl true]) M := by
    have := compL_map (gm := gN 2) (tt := tYes') (el := eTup (aCons (eVar 2) (aCons (eC (.bl true)) aNil))) (δ := [some (.int n), some (.lst (ps.map tieD)), none]) (M := M) (items := ps.map tieD) (acc := [])
      (fun d => D.tup [d, .bl true]) (by rw [List.length_map, List.length_nil]; omega) (fun d hd => ⟨_, rfl, rfl, by simp [sz_of]⟩)
    rw [this, List.nil_append, List.map_map]
    rfl
  have m1 := mkL_true M (ps.map fun t => D.tup [tieD t, .bl true]) (by rw [List.length_map, sizeLine_eq]; omega)
  have d1 : dictTD [.lst (ps.map fun t => D.tup [tieD t, .bl true])] M = .ok (.ref M.length) (M ++ [Ob.dT (kvL (insAll [] ps))]) := by
    simp only [dictTD, getS, getL, Option.bind_some, pairsT_ties, mergeT]
    have := merge_ties ps []
    simp only [kvL, List.map_nil] at this
    rw [show kvL ps = ps.map fun t => (keyT t, D.bl true) from rfl, this]
    rfl
  have s := sorted_dict M (insAll [] ps) (insAll_nodup _ List.nodup_nil) (by have := insAll_len ps []; simp at this; omega)
  have dr : dropM M (webD n (mkT ps)) (M ++ [Ob.dT (kvL (insAll [] ps))]) = M := dropM_app (bel_web _ _ _)
  have hw : webD n (mkT ps) = .tup [.int n, .tup ((srt (insAll [] ps)).map tieD)] := rfl
  rw [hw] at dr ⊢
  generalize (srt (insAll [] ps)).map tieD = zs at s dr ⊢
  generalize ps.map tieD = ds at q ⊢
  generalize (ps.map fun t => D.tup [tieD t, .bl true]) = es at q m1 d1
  generalize kvL (insAll [] ps) = kv at d1 s dr
  simp only [F__law_web, B__law_web, defF, startD, List.map_cons, List.map_nil, List.length_cons, List.length_nil, List.replicate, List.cons_append, List.nil_append, ev_ret, ev_tup, ev_cons, ev_var, List.getElem?_cons_zero, List.getElem?_cons_succ, Rs.bind_ok, ev_nil, ev_B, ev_lc, ev_aOf, itL, ofO_some, wipeD, List.set_cons_succ, List.set_cons_zero, q, m1, d1, s, ev_tupL, sz_of (show 2 ≤ 1000000 by omega), if_true, Rs.stm_ok, dr, Nat.reduceAdd, Nat.reduceSub]
/-! renamed -/
structure RowOk (n : Nat) (row : List Nat) : Prop where
  len : row.length = n
  nd : row.Nodup
  lt : ∀ x ∈ row, x < n
def rowD (row : List Nat) : D := .lst (natsD row)
def permT (row : List Nat) (t : Tie) : Tie := norm (row.getD t.1 0, row.getD t.2 0)
theorem row_get {row : List Nat} {p : Nat} (h : p < row.length) : ixD (rowD row) (.int p) M = .ok (.int (row.getD p 0)) M := by
  rw [rowD, ev_ixL, atI_nat]
  simp [natsD, h]
end
end
end Dl

set_option Elab.async false
set_option linter.all false
set_option autoImplicit false
set_option maxRecDepth 100000
set_option maxHeartbeats 4000000
/-! k75, the plain law: counts of a sum, of a renamed web, of a web with a tie more. -/
namespace Dl
noncomputable section
open PySem PySem.Spec L2
theorem sum_perm {l l' : List Int} (h : l.Perm l') : l.sum = l'.sum := by
  induction h with
  | nil => rfl
  | cons x _ ih => rw [List.sum_cons, List.sum_cons, ih]
  | swap x y l => rw [List.sum_cons, List.sum_cons, List.sum_cons, List.sum_cons]; omega
  | trans _ _ h1 h2 => exact h1.trans h2
theorem sumN_add (n m : Nat) (f : Nat → Int) : sumN (n + m) f = sumN n f + sumN m fun i => f (n + i) := by
  unfold sumN
  rw [List.range_add, List.map_append, List.sum_append, List.map_map]
  rfl
theorem sumN_congr {n : Nat} {f g : Nat → Int} (h : ∀ p, p < n → f p = g p) : sumN n f = sumN n g := by
  unfold sumN
  congr 1
  apply List.map_congr_left
  intro p hp
  exact h p (List.mem_range.mp hp)
theorem nv_congr {n : Nat} {ts : List Tie} {u v : Nat → Int} (h : ∀ q, q < n → u q = v q) (p : Nat) : nv n ts u p = nv n ts v p := by
  unfold nv
  congr 1
  apply List.map_congr_left
  intro q hq
  exact h q (near_lt hq)
/-! ### sums of webs -/
section
variable {n m : Nat} {ts us : List Tie} (w : Web n ts) (v : Web m us)
include w v
theorem adj_lo {p q : Nat} (hp : p < n) : adj (ts ++ us.map (shift n)) p q = adj ts p q := by
  unfold adj
  congr 1
  simp only [List.mem_append, List.mem_map, eq_iff_iff]
  constructor
  · rintro ((h | ⟨t, _, h⟩) | (h | ⟨t, _, h⟩))
    · exact .inl h
    · simp only [shift, Prod.mk.injEq] at h; omega
    · exact .inr h
    · simp only [shift, Prod.mk.injEq] at h; omega
  · rintro (h | h)
    · exact .inl (.inl h)
    · exact .inr (.inl h)
theorem adj_hi {i j : Nat} : adj (ts ++ us.map (shift n)) (n + i) (n + j) = adj us i j := by
  unfold adj
  congr 1
  simp only [List.mem_append, List.mem_map, eq_iff_iff]
  constructor
  · rintro ((h | ⟨⟨a, b⟩, ht, h⟩) | (h | ⟨⟨a, b⟩, ht, h⟩))
    · have := w.ok _ h; simp only at this; omega
    · simp only [shift, Prod.mk.injEq] at h
      have e1 : a = i := by omega
      have e2 : b = j := by omega
      subst e1 e2
      exact .inl ht
    · have := w.ok _ h; simp only at this; omega
    · simp only [shift, Prod.mk.injEq] at h
      have e1 : a = j := by omega
      have e2 : b = i := by omega
      subst e1 e2
      exact .inr ht
  · rintro (h | h)
    · exact .inl (.inr ⟨(i, j), h, by simp [shift]; omega⟩)
    · exact .inr (.inr ⟨(j, i), h, by simp [shift]; omega⟩)
theorem adj_mix {p j : Nat} (hp : p < n) : adj ts p (n + j) = false := by
  unfold adj
  rw [decide_eq_false_iff_not]
  rintro (h | h)
  · have := w.ok _ h; simp only at this; omega
  · have := w.ok _ h; simp only at this; omega
theorem adj_mix2 {i q : Nat} (hq : q < n) : adj (ts ++ us.map (shift n)) (n + i) q = false := by
  have h1 : adj (ts ++ us.map (shift n)) (n + i) q = adj (ts ++ us.map (shift n)) q (n + i) := by
    unfold adj; congr 1; rw [eq_iff_iff]; exact Or.comm
  rw [h1, adj_lo w v hq, adj_mix w v hq]
theorem near_lo {p : Nat} (hp : p < n) : nearL (n + m) (ts ++ us.map (shift n)) p = nearL n ts p := by
  unfold nearL
  rw [List.range_add, List.filter_append]
  have h1 : (List.range n).filter (adj (ts ++ us.map (shift n)) p) = (List.range n).filter (adj ts p) := List.filter_congr fun q _ => adj_lo w v hp
  have h2 : ((List.range m).map (n + ·)).filter (adj (ts ++ us.map (shift n)) p) = [] := by
    rw [List.filter_eq_nil_iff]
    intro a ha
    obtain ⟨j, _, rfl⟩ := List.mem_map.mp ha
    rw [adj_lo w v hp, adj_mix w v hp]
    simp
  rw [h1, h2, List.append_nil]
theorem near_hi (i : Nat) : nearL (n + m) (ts ++ us.map (shift n)) (n + i) = (nearL m us i).map (n + ·) := by
  unfold nearL
  rw [List.range_add, List.filter_append]
  have h1 : (List.range n).filter (adj (ts ++ us.map (shift n)) (n + i)) = [] := by
    rw [List.filter_eq_nil_iff]
    intro q hq
    rw [adj_mix2 w v (List.mem_range.mp hq)]
    simp
  rw [h1, List.nil_append, List.filter_map]
  congr 1
  apply List.filter_congr
  intro j _
  exact adj_hi w v
theorem nv_lo {x : Nat → Int} {p : Nat} (hp : p < n) : nv (n + m) (ts ++ us.map (shift n)) x p = nv n ts x p := by
  unfold nv
  rw [near_lo w v hp]
theorem nv_hi {x : Nat → Int} (i : Nat) : nv (n + m) (ts ++ us.map (shift n)) x (n + i) = nv m us (fun j => x (n + j)) i := by
  unfold nv
  rw [near_hi w v, List.map_map]
  rfl
theorem wv_lo : ∀ (k : Nat) {p : Nat}, p < n → wv (n + m) (ts ++ us.map (shift n)) k p = wv n ts k p
  | 0, p, _ => rfl
  | k + 1, p, hp => by
    show nv _ _ _ p = nv _ _ _ p
    rw [nv_lo w v hp]
    exact nv_congr (fun q hq => wv_lo k hq) p
theorem wv_hi : ∀ (k i : Nat), wv (n + m) (ts ++ us.map (shift n)) k (n + i) = wv m us k i
  | 0, i => rfl
  | k + 1, i => by
    show nv _ _ _ (n + i) = nv _ _ _ i
    rw [nv_hi w v]
    exact nv_congr (fun q _ => wv_hi k q) i
theorem cW_beside (k : Nat) : cW (n + m) (ts ++ us.map (shift n)) k = cW n ts k + cW m us k := by
  unfold cW
  rw [sumN_add]
  congr 1
  · exact sumN_congr fun p hp => wv_lo w v k hp
  · exact sumN_congr fun p _ => wv_hi w v k p
theorem rv_ll {p : Nat} (hp : p < n) : ∀ (k : Nat) {q : Nat}, q < n → rv (n + m) (ts ++ us.map (shift n)) p k q = rv n ts p k q
  | 0, q, _ => rfl
  | k + 1, q, hq => by
    show nv _ _ _ q = nv _ _ _ q
    rw [nv_lo w v hq]
    exact nv_congr (fun q hq => rv_ll hp k hq) q
theorem rv_hh (i : Nat) : ∀ (k j : Nat), rv (n + m) (ts ++ us.map (shift n)) (n + i) k (n + j) = rv m us i k j
  | 0, j => by
    show ee (n + i) (n + j) = ee i j
    unfold ee
    by_cases h : j = i
    · subst h; simp
    · have : ¬ n + j = n + i := by omega
      simp [h, this]
  | k + 1, j => by
    show nv _ _ _ (n + j) = nv _ _ _ j
    rw [nv_hi w v]
    exact nv_congr (fun q _ => rv_hh i k q) j
theorem cR_beside (k : Nat) : cR (n + m) (ts ++ us.map (shift n)) k = cR n ts k + cR m us k := by
  unfold cR
  rw [sumN_add]
  congr 1
  · exact sumN_congr fun p hp => rv_ll w v hp k hp
  · exact sumN_congr fun p _ => rv_hh w v p k p
theorem cS_beside (k : Nat) : cS (n + m) (ts ++ us.map (shift n)) k = cS n ts k + cS m us k := by
  unfold cS
  rw [sumN_add]
  congr 1
  · exact sumN_congr fun p hp => by rw [near_lo w v hp]
  · exact sumN_congr fun p _ => by rw [near_hi w v, List.length_map]
end
/-! ### renamed webs -/
theorem row_perm {n : Nat} {row : List Nat} (r : RowOk n row) : row.Perm (List.range n) := by
  rw [List.perm_ext_iff_of_nodup r.nd List.nodup_range]
  intro a
  rw [List.mem_range]
  refine ⟨r.lt a, fun ha => ?_⟩
  have e : row.Perm ((List.range n).filter fun q => decide (q ∈ row)) := by
    rw [List.perm_ext_iff_of_nodup r.nd (List.nodup_range.filter _)]
    intro b
    simp only [List.mem_filter, List.mem_range, decide_eq_true_eq]
    exact ⟨fun h => ⟨r.lt b h, h⟩, fun h => h.2⟩
  have hl : ((List.range n).filter fun q => decide (q ∈ row)).length = (List.range n).length := by rw [← e.length_eq, r.len, List.length_range]
  have := (List.length_filter_eq_length_iff.mp hl) a (List.mem_range.mpr ha)
  simpa using this
section
variable {n : Nat} {ts : List Tie} {row : List Nat} (w : Web n ts) (r : RowOk n row)
include w r
theorem pi_lt {p : Nat} (hp : p < n) : row.getD p 0 < n := by
  have : p < row.length := by rw [r.len]; exact hp
  rw [List.getD_eq_getElem?_getD, List.getElem?_eq_getElem this]
  exact r.lt _ (List.getElem_mem this)
theorem pi_inj {p q : Nat} (hp : p < n) (hq : q < n) (h : row.getD p 0 = row.getD q 0) : p = q := by
  have h1 : p < row.length := by rw [r.len]; exact hp
  have h2 : q < row.length := by rw [r.len]; exact hq
  rw [List.getD_eq_getElem?_getD, List.getD_eq_getElem?_getD, List.getElem?_eq_getElem h1, List.getElem?_eq_getElem h2] at h
  exact (List.getElem?_inj h1 r.nd).mp (by rw [List.getElem?_eq_getElem h1, List.getElem?_eq_getElem h2]; exact congrArg some h)
theorem pi_map : (List.range n).map (fun p => row.getD p 0) = row := by
  apply List.ext_getElem?
  intro i
  by_cases hi : i < n
  · have h1 : i < row.length := by rw [r.len]; exact hi
    simp [hi, List.getD_eq_getElem?_getD, List.getElem?_eq_getElem h1]
  · rw [List.getElem?_eq_none (by simp; omega), List.getElem?_eq_none (by rw [r.len]; omega)]
theorem sumN_pi (f : Nat → Int) : sumN n f = sumN n fun p => f (row.getD p 0) := by
  unfold sumN
  have h : ((List.range n).map fun p => f (row.getD p 0)) = row.map f := by
    conv => rhs; rw [← pi_map w r]
    rw [List.map_map]
    rfl
  rw [h]
  exact sum_perm ((row_perm r).symm.map f)
theorem adj_pi {p q : Nat} (hp : p < n) (hq : q < n) : adj (mkT (ts.map (permT row))) (row.getD p 0) (row.getD q 0) = adj ts p q := by
  have key : ∀ t ∈ ts, ∀ a b, a < n → b < n → permT row t = (row.getD a 0, row.getD b 0) → t = (a, b) ∨ t = (b, a) := by
    intro t ht a b ha hb e
    have hok := w.ok t ht
    obtain ⟨x, y⟩ := t
    simp only at hok
    have hx : x < n := by omega
    have hy : y < n := hok.2
    simp only [permT, norm, Prod.mk.injEq] at e
    simp only [Prod.mk.injEq]
    by_cases h : row.getD x 0 ≤ row.getD y 0
    · rw [Nat.min_eq_left h, Nat.max_eq_right h] at e
      exact .inl ⟨pi_inj w r hx ha e.1, pi_inj w r hy hb e.2⟩
    · rw [Nat.min_eq_right (by omega), Nat.max_eq_left (by omega)] at e
      exact .inr ⟨pi_inj w r hx hb e.2, pi_inj w r hy ha e.1⟩
  have back : ∀ a b, (a, b) ∈ ts → (row.getD a 0, row.getD b 0) ∈ mkT (ts.map (permT row)) ∨ (row.getD b 0, row.getD a 0) ∈ mkT (ts.map (permT row)) := by
    intro a b h
    have h2 : permT row (a, b) ∈ mkT (ts.map (permT row)) := mkT_mem.mpr (List.mem_map.mpr ⟨_, h, rfl⟩)
    unfold permT norm at h2
    simp only at h2
    by_cases h3 : row.getD a 0 ≤ row.getD b 0
    · rw [Nat.min_eq_left h3, Nat.max_eq_right h3] at h2; exact .inl h2
    · rw [Nat.min_eq_right (by omega), Nat.max_eq_left (by omega)] at h2; exact .inr h2
  unfold adj
  congr 1
  rw [eq_iff_iff]
  constructor
  · rintro (h | h)
    · obtain ⟨t, ht, e⟩ := List.mem_map.mp (mkT_mem.mp h)
      rcases key t ht p q hp hq e with rfl | rfl
      · exact .inl ht
      · exact .inr ht
    · obtain ⟨t, ht, e⟩ := List.mem_map.mp (mkT_mem.mp h)
      rcases key t ht q p hq hp e with rfl | rfl
      · exact .inr ht
      · exact .inl ht
  · rintro (h | h)
    · exact back p q h
    · exact (back q p h).symm
theorem near_pi {p : Nat} (hp : p < n) : (nearL n (mkT (ts.map (permT row))) (row.getD p 0)).Perm ((nearL n ts p).map fun q => row.getD q 0) := by
  have nd2 : ((nearL n ts p).map fun q => row.getD q 0).Nodup := by
    unfold List.Nodup
    rw [List.pairwise_map]
    have : (nearL n ts p).Nodup := List.nodup_range.filter _
    exact (this.imp_of_mem fun {a b} ha hb hne e => hne (pi_inj w r (near_lt ha) (near_lt hb) e))
  rw [List.perm_ext_iff_of_nodup (show (nearL n (mkT (ts.map (permT row))) (row.getD p 0)).Nodup from List.nodup_range.filter _) nd2]
  intro a
  unfold nearL
  simp only [List.mem_filter, List.mem_range, List.mem_map]
  constructor
  · rintro ⟨ha, h⟩
    have hm : a ∈ row := (row_perm r).mem_iff.mpr (List.mem_range.mpr ha)
    rw [← pi_map w r] at hm
    obtain ⟨q, hq, rfl⟩ := List.mem_map.mp hm
    have hq' := List.mem_range.mp hq
    rw [adj_pi w r hp hq'] at h
    exact ⟨q, ⟨hq', h⟩, rfl⟩
  · rintro ⟨q, ⟨hq, h⟩, rfl⟩
    exact ⟨pi_lt w r hq, by rw [adj_pi w r hp hq]; exact h⟩
theorem nv_pi {x : Nat → Int} {p : Nat} (hp : p < n) : nv n (mkT (ts.map (permT row))) x (row.getD p 0) = nv n ts (fun q => x (row.getD q 0)) p := by
  unfold nv
  rw [sum_perm ((near_pi w r hp).map x), List.map_map]
  rfl
theorem wv_pi : ∀ (k : Nat) {p : Nat}, p < n → wv n (mkT (ts.map (permT row))) k (row.getD p 0) = wv n ts k p
  | 0, p, _ => rfl
  | k + 1, p, hp => by
    show nv _ _ _ _ = nv _ _ _ _
    rw [nv_pi w r hp]
    exact nv_congr (fun q hq => wv_pi k hq) p
theorem cW_pi (k : Nat) : cW n (mkT (ts.map (permT row))) k = cW n ts k := by
  unfold cW
  rw [sumN_pi w r]
  exact sumN_congr fun p hp => wv_pi w r k hp
theorem rv_pi {p : Nat} (hp : p < n) : ∀ (k : Nat) {q : Nat}, q < n → rv n (mkT (ts.map (permT row))) (row.getD p 0) k (row.getD q 0) = rv n ts p k q
  | 0, q, hq => by
    show ee _ _ = ee _ _
    unfold ee
    by_cases h : q = p
    · subst h; simp
    · have : ¬ row.getD q 0 = row.getD p 0 := fun e => h (pi_inj w r hq hp e)
      rw [if_neg this, if_neg h]
  | k + 1, q, hq => by
    show nv _ _ _ _ = nv _ _ _ _
    rw [nv_pi w r hq]
    exact nv_congr (fun q hq => rv_pi hp k hq) q
theorem cR_pi (k : Nat) : cR n (mkT (ts.map (permT row))) k = cR n ts k := by
  unfold cR
  rw [sumN_pi w r]
  exact sumN_congr fun p hp => rv_pi w r hp k hp
theorem cS_pi (k : Nat) : cS n (mkT (ts.map (permT row))) k = cS n ts k := by
  unfold cS
  rw [sumN_pi w r]
  exact sumN_congr fun p hp => by rw [(near_pi w r hp).length_eq, List.length_map]
theorem web_pi : Web n (mkT (ts.map (permT row))) := mkT_web fun t ht => by
  obtain ⟨s, hs, rfl⟩ := List.mem_map.mp ht
  have hok := w.ok s hs
  have h1 := pi_lt w r (p := s.1) (by omega)
  have h2 := pi_lt w r (p := s.2) (by omega)
  unfold permT norm
  simp only
  omega
end
/-! ### more ties -/
section
variable {n : Nat} {ts us : List Tie} (h : ∀ t ∈ ts, t ∈ us)
include h
theorem adj_mono {p q : Nat} (a : adj ts p q = true) : adj us p q = true := by
  unfold adj at *
  rw [decide_eq_true_eq] at *
  exact a.imp (h _) (h _)
theorem filter_le {l : List Nat} {f g : Nat → Bool} (hfg : ∀ q, f q = true → g q = true) {x y : Nat → Int} (hx : ∀ q ∈ l, 0 ≤ x q ∧ x q ≤ y q) : ((l.filter f).map x).sum ≤ ((l.filter g).map y).sum ∧ (l.filter f).length ≤ (l.filter g).length := by
  induction l with
  | nil => simp
  | cons q l ih =>
    obtain ⟨h1, h2⟩ := ih fun z hz => hx z (List.mem_cons_of_mem _ hz)
    obtain ⟨h3, h4⟩ := hx q List.mem_cons_self
    by_cases hf : f q = true
    · have hg := hfg q hf
      rw [List.filter_cons_of_pos hf, List.filter_cons_of_pos hg]
      simp only [List.map_cons, List.sum_cons, List.length_cons]
      omega
    · rw [List.filter_cons_of_neg hf]
      by_cases hg : g q = true
      · rw [List.filter_cons_of_pos hg]
        simp only [List.map_cons, List.sum_cons, List.length_cons]
        omega
      · rw [List.filter_cons_of_neg hg]
        exact ⟨h1, h2⟩
theorem nv_mono {x y : Nat → Int} (hx : ∀ q, q < n → 0 ≤ x q ∧ x q ≤ y q) (p : Nat) : nv n ts x p ≤ nv n us y p :=
  (filter_le h (l := List.range n) (fun q => adj_mono h) fun q hq => hx q (List.mem_range.mp hq)).1
theorem wv_mono : ∀ (k p : Nat), wv n ts k p ≤ wv n us k p
  | 0, p => Int.le_refl _
  | k + 1, p => nv_mono h (fun q _ => ⟨(wv_bound k q).1, wv_mono k q⟩) p
theorem rv_mono (p : Nat) : ∀ (k q : Nat), rv n ts p k q ≤ rv n us p k q
  | 0, q => Int.le_refl _
  | k + 1, q => nv_mono h (fun q _ => ⟨(rv_bound p k q).1, rv_mono p k q⟩) q
theorem sumN_mono {f g : Nat → Int} (hfg : ∀ p, p < n → f p ≤ g p) : sumN n f ≤ sumN n g := by
  unfold sumN
  have : ∀ l : List Nat, (∀ p ∈ l, f p ≤ g p) → (l.map f).sum ≤ (l.map g).sum := by
    intro l
    induction l with
    | nil => intro _; simp
    | cons q l ih =>
      intro hl
      have h1 := ih fun z hz => hl z (List.mem_cons_of_mem _ hz)
      have h2 := hl q List.mem_cons_self
      simp only [List.map_cons, List.sum_cons]
      omega
  exact this _ fun p hp => hfg p (List.mem_range.mp hp)
theorem cW_mono (k : Nat) : cW n ts k ≤ cW n us k := sumN_mono h fun p _ => wv_mono h k p
theorem cR_mono (k : Nat) : cR n ts k ≤ cR n us k := sumN_mono h fun p _ => rv_mono h p k p
theorem cS_mono (k : Nat) : cS n ts k ≤ cS n us k := sumN_mono h fun p _ => by
  have h1 := (filter_le h (l := List.range n) (f := adj ts p) (g := adj us p) (fun q => adj_mono h) (x := fun _ => 0) (y := fun _ => 0) fun q _ => by simp).2
  have h2 : (nearL n ts p).length ≤ (nearL n us p).length := h1
  have e1 : ((nearL n ts p).length : Int) ^ k = (((nearL n ts p).length ^ k : Nat) : Int) := by simp
  have e2 : ((nearL n us p).length : Int) ^ k = (((nearL n us p).length ^ k : Nat) : Int) := by simp
  have := Nat.pow_le_pow_left h2 k
  rw [e1, e2]
  omega
end
end
end Dl

set_option Elab.async false
set_option linter.all false
set_option autoImplicit false
set_option maxRecDepth 100000
set_option maxHeartbeats 4000000
/-! the pen. -/
namespace Dl
noncomputable section
open PySem PySem.Spec L2
def penO (cs : List Int) (a r : Int) : Ob := .dK [(Sum.inr ("cells" : Str), .lst (cs.map D.int)), (Sum.inr ("at" : Str), .int a), (Sum.inr ("rest" : Str), .int r)]
theorem ne_ca : ¬ (("cells" : Str) = "at") := by decide +kernel
theorem ne_cr : ¬ (("cells" : Str) = "rest") := by decide +kernel
theorem ne_ar : ¬ (("at" : Str) = "rest") := by decide +kernel
theorem ne_ac : ¬ (("at" : Str) = "cells") := by decide +kernel
theorem ne_rc : ¬ (("rest" : Str) = "cells") := by decide +kernel
theorem ne_ra : ¬ (("rest" : Str) = "at") := by decide +kernel
section
variable (R : Mem) (cs : List Int) (a r x : Int)
theorem ix_cells : ixD (.ref 0) (.str "cells") (penO cs a r :: R) = .ok (.lst (cs.map D.int)) (penO cs a r :: R) := by
  unfold ixD dgetD penO
  simp only [List.getElem?_cons_zero, keyOf, Option.map_some, lookD, List.find?_cons, Sum.inr.injEq, decide_true]
theorem ix_at : ixD (.ref 0) (.str "at") (penO cs a r :: R) = .ok (.int a) (penO cs a r :: R) := by
  unfold ixD dgetD penO
  simp only [List.getElem?_cons_zero, keyOf, Option.map_some, lookD, List.find?_cons, Sum.inr.injEq, ne_ca, decide_true, decide_false]
theorem ix_rest : ixD (.ref 0) (.str "rest") (penO cs a r :: R) = .ok (.int r) (penO cs a r :: R) := by
  unfold ixD dgetD penO
  simp only [List.getElem?_cons_zero, keyOf, Option.map_some, lookD, List.find?_cons, Sum.inr.injEq, ne_cr, ne_ar, decide_true, decide_false]
theorem three : decide (3 < sizeLine) = true := by rw [sizeLine_eq]; decide
theorem set_at : setD (.ref 0) (.str "at") (.int x) (penO cs a r :: R) = some (penO cs x r :: R) := by
  unfold setD penO
  simp only [List.getElem?_cons_zero, keyOf, List.length_cons, List.length_nil, Nat.reduceAdd, three, if_true, putD, List.any_cons, List.any_nil, Sum.inr.injEq, ne_ca, ne_ra, decide_true, decide_false, Bool.or_true, Bool.true_or, Bool.or_false, Bool.false_or, List.map_cons, List.map_nil, if_false, List.set_cons_zero]
theorem set_rest : setD (.ref 0) (.str "rest") (.int x) (penO cs a r :: R) = some (penO cs a x :: R) := by
  unfold setD penO
  simp only [List.getElem?_cons_zero, keyOf, List.length_cons, List.length_nil, Nat.reduceAdd, three, if_true, putD, List.any_cons, List.any_nil, Sum.inr.injEq, ne_cr, ne_ar, decide_true, decide_false, Bool.or_true, Bool.true_or, Bool.or_false, Bool.false_or, List.map_cons, List.map_nil, if_false, List.set_cons_zero]
end
theorem small_lit {i : Int} (h : 0 ≤ i) (h2 : i < 18446744073709551616) : small i = true := by unfold small; rw [cdec_iff]; omega
theorem small_mod (x m : Int) (h : 0 < m) (h2 : m ≤ 4294967296) : small (x % m) = true := by
  have := Int.emod_nonneg x (show m ≠ 0 by omega)
  have := Int.emod_lt_of_pos x h
  exact small_lit (by omega) (by omega)
/-- the tail of a draw -/
def drawV (cell a : Int) : Int :=
  let m1 := (cell % 4294967197 * 48017 + 22013 * a * a + 1543 * a + 17) % 4294967189
  let m2 := (m1 * m1 + 68891 * m1 + 29 * a + 7) % 4294967161
  m2 * (m2 + 57041) % 4294967143 / 64
theorem drop_pen (o o' : Ob) (R : Mem) (d : D) : dropM (o :: R) d (o' :: R) = o' :: R := dropM_same rfl
theorem sif_no (c : TT') (s t : SS) (δ : Loc) (M M' : Mem) (h : c δ M = .ok false M') : sIf c s t δ M = t δ M' := by rw [ev_sif, h]; rfl
theorem sif_yes (c : TT') (s t : SS) (δ : Loc) (M M' : Mem) (h : c δ M = .ok true M') : sIf c s t δ M = s δ M' := by rw [ev_sif, h]; rfl
theorem seq_skip (c : TT') (s t : SS) (δ : Loc) (M M' : Mem) (h : c δ M = .ok false M') : sSeq (sIf c s sNx) t δ M = t δ M' := by rw [ev_seq, ev_sif, h]; rfl
theorem seq_nx (s t : SS) (δ δ' : Loc) (M M' : Mem) (h : s δ M = .nx δ' M') : sSeq s t δ M = t δ' M' := by rw [ev_seq, h]
theorem eq_draw (R : Mem) (cs : List Int) (a r : Int) (many : Nat) (ha : 0 ≤ a) (ha2 : a ≤ 1000000000000) (hm : 0 < many) (hm2 : many < 1000000) (hc : cs.length ≤ 63) :
    ∃ (d : Nat) (a' r' : Int), d < many ∧ 0 ≤ a' ∧ a' ≤ a + 1 ∧ F__law_draw [.ref 0, .int many] (penO cs a r :: R) = .ok (.int d) (penO cs a' r' :: R) := by
  have hm0 : (0 : Int) < (many : Int) := by omega
  have hmf : (0 : Int) < (many : Int) ∧ (many : Int) < 1073741824 := by omega
  have toN : ∀ x : Int, ∃ d : Nat, d < many ∧ x % (many : Int) = (d : Int) := fun x => by
    have h1 := Int.emod_nonneg x (show (many : Int) ≠ 0 by omega)
    have h2 := Int.emod_lt_of_pos x hm0
    exact ⟨(x % (many : Int)).toNat, by omega, by omega⟩
  by_cases hr : 0 < r
  · obtain ⟨d, h1, h2⟩ := toN r
    refine ⟨d, a, r / many, h1, ha, by omega, ?_⟩
    simp only [F__law_draw, B__law_draw, defF, startD, List.map_cons, List.map_nil, List.length_cons, List.length_nil, List.replicate, List.cons_append, List.nil_append, ev_seq, ev_sif, ev_tBl, ev_e2, ev_var, List.getElem?_cons_zero, List.getElem?_cons_succ, List.set_cons_succ, List.set_cons_zero, Rs.bind_ok, ev_C, ix_rest, ev_gt, hr, decide_true, Rs.stm_ok, if_true, ev_asg, ev_B, ev_cons, ev_nil, ev_int, ev_mod, hm0, h2, ev_gN, nxO_ok, ev_fdiv, hmf, and_self, ev_gSub, set_rest, ev_ret, drop_pen, Nat.reduceAdd, Nat.reduceSub]
  · -- the cell
    have cell : ∃ cell : Int, (if cs.isEmpty then (61 * a + 83) else (cs.getD (a % (cs.length : Int)).toNat 0)) = cell := ⟨_, rfl⟩
    obtain ⟨cell, hcell⟩ := cell
    have s47 := small_lit (i := 61) (by omega) (by omega)
    have sa := small_lit (i := a) ha (by omega)
    have e47 : ∀ M, mulD true (.int 61) (.int a) M = .ok (.int (61 * a)) M := fun M => ev_mulI M true 61 a (.inl s47)
    have b1 : (sIf (tBl (e2 (eqD true) (e2 ixD (eVar 0) (eC (.str "cells"))) (eLst true aNil))) (sAsg (e2 ixD (e2 ixD (eVar 0) (eC (.str "cells"))) (e2 modD (eB intD (aCons (eVar 2) aNil)) (eB lenD (aCons (e2 ixD (eVar 0) (eC (.str "cells"))) aNil)))) (gN 3)) sNx) [some (.ref 0), some (.int many), some (.int a), some (.int (61 * a + 83)), none, none] (penO cs (a + 1) r :: R) =
        .nx [some (.ref 0), some (.int many), some (.int a), some (.int cell), none, none] (penO cs (a + 1) r :: R) := by
      have n1 := ev_neNil (penO cs (a + 1) r :: R) true cs
      have m0 : mkL true ([] : List D) (penO cs (a + 1) r :: R) = .ok (.lst []) (penO cs (a + 1) r :: R) := mkL_true _ _ (Nat.zero_le _)
      simp only [if_true] at n1
      cases hcs : cs with
      | nil =>
        subst hcs
        simp only [List.isEmpty_nil, if_true] at hcell
        simp only [ev_sif, ev_tBl, ev_e2, ev_var, List.getElem?_cons_zero, Rs.bind_ok, ev_C, ix_cells, ev_lst, ev_nil, m0, n1, List.isEmpty_nil, Bool.not_true, Rs.stm_ok, Bool.false_eq_true, if_false, ev_nx, hcell]
      | cons c cs' =>
        rw [← hcs]
        have hne : cs.isEmpty = false := by rw [hcs]; rfl
        have hlen : (0 : Int) < (cs.length : Int) := by rw [hcs]; simp
        have hb := Int.emod_nonneg a (show (cs.length : Int) ≠ 0 by omega)
        have hb2 := Int.emod_lt_of_pos a hlen
        have g : ixD (.lst (cs.map D.int)) (.int (a % (cs.length : Int))) (penO cs (a + 1) r :: R) = .ok (.int cell) (penO cs (a + 1) r :: R) := by
          rw [ev_ixL, atI_pos _ hb, List.getElem?_map]
          have hlt : (a % (cs.length : Int)).toNat < cs.length := by omega
          rw [hne] at hcell
          simp only [Bool.false_eq_true, if_false] at hcell
          rw [List.getD_eq_getElem?_getD, List.getElem?_eq_getElem hlt] at hcell
          rw [List.getElem?_eq_getElem hlt]
          simp only [Option.getD_some] at hcell
          rw [Option.map_some, ofO_some, hcell]
        simp only [ev_sif, ev_tBl, ev_e2, ev_var, List.getElem?_cons_zero, List.getElem?_cons_succ, List.set_cons_succ, List.set_cons_zero, Rs.bind_ok, ev_C, ix_cells, ev_lst, ev_nil, m0, n1, hne, Bool.not_false, Rs.stm_ok, if_true, ev_asg, ev_B, ev_cons, ev_int, ev_lenL, List.length_map, ev_mod, hlen, g, ev_gN, nxO_ok]
    have p10 : ∀ M, powD (.int 10) (.int 18) M = .ok (.int 1000000000000000000) M := fun M => by
      rw [ev_pow, if_pos (by omega)]
      rfl
    by_cases hbig : a < (cs.length : Int) ∧ 1000000000000000000 ≤ (if cell < 0 then -cell else cell)
    · obtain ⟨d, h1, h2⟩ := toN ((if cell < 0 then -cell else cell) - 1000000000000000000)
      refine ⟨d, a + 1, ((if cell < 0 then -cell else cell) - 1000000000000000000) / many, h1, by omega, by omega, ?_⟩
      generalize habs : (if cell < 0 then -cell else cell) = ac at hbig h2 ⊢
      have eabs : ∀ M, absD [.int cell] M = .ok (.int ac) M := fun M => by rw [ev_abs, habs]
      have hb1 := hbig.1
      have hb2 := hbig.2
      simp only [F__law_draw, B__law_draw, defF, startD, List.map_cons, List.map_nil, List.length_cons, List.length_nil, List.replicate, List.cons_append, List.nil_append]
      rw [seq_skip _ _ _ _ _ (penO cs a r :: R) (by simp only [ev_tBl, ev_e2, ev_var, List.getElem?_cons_zero, Rs.bind_ok, ev_C, ix_rest, ev_gt, hr, decide_false])]
      rw [seq_nx _ _ _ [some (.ref 0), some (.int many), some (.int a), none, none, none] _ (penO cs a r :: R) (by simp only [ev_asg, ev_e2, ev_var, List.getElem?_cons_zero, Rs.bind_ok, ev_C, ix_at, Rs.stm_ok, ev_gN, nxO_ok, List.set_cons_succ, List.set_cons_zero, List.replicate, Nat.reduceSub, List.length_cons, List.length_nil, Nat.reduceAdd, List.append])]
      rw [seq_nx _ _ _ [some (.ref 0), some (.int many), some (.int a), none, none, none] _ (penO cs (a + 1) r :: R) (by simp only [ev_asg, ev_e2, ev_var, List.getElem?_cons_zero, List.getElem?_cons_succ, Rs.bind_ok, ev_C, ev_addI, Rs.stm_ok, ev_gSub, set_at, nxO_ok])]
      rw [seq_nx _ _ _ [some (.ref 0), some (.int many), some (.int a), some (.int (61 * a + 83)), none, none] _ (penO cs (a + 1) r :: R) (by simp only [ev_asg, ev_e2, ev_var, List.getElem?_cons_zero, List.getElem?_cons_succ, Rs.bind_ok, ev_C, e47, ev_addI, Rs.stm_ok, ev_gN, nxO_ok, List.set_cons_succ, List.set_cons_zero])]
      rw [seq_nx _ _ _ _ _ _ b1]
      simp only [ev_sif, ev_bAnd, ev_tBl, ev_e2, ev_var, List.getElem?_cons_zero, List.getElem?_cons_succ, List.set_cons_succ, List.set_cons_zero, Rs.bind_ok, ev_C, ev_B, ev_cons, ix_cells, ev_nil, ev_lenL, List.length_map, ev_lt, hb1, decide_true, if_true, eabs, p10, ev_ge, hb2, Rs.stm_ok, ev_seq, ev_asg, ev_sub, ev_fdiv, hmf, and_self, ev_gSub, set_rest, nxO_ok, ev_ret, ev_int, ev_mod, hm0, h2, drop_pen]
    · have sA : ∀ i : Int, 0 ≤ i → i < 18446744073709551616 → small i = true := fun i h h2 => small_lit h h2
      have e1 : ∀ M x, mulD true (.int x) (.int 48017) M = .ok (.int (x * 48017)) M := fun M x => ev_mulI M true x _ (.inr (sA _ (by omega) (by omega)))
      have e2' : ∀ M x, mulD true (.int 22013) (.int x) M = .ok (.int (22013 * x)) M := fun M x => ev_mulI M true _ x (.inl (sA _ (by omega) (by omega)))
      have e3 : ∀ M x, mulD true (.int x) (.int a) M = .ok (.int (x * a)) M := fun M x => ev_mulI M true x a (.inr sa)
      have e5 : ∀ M x, mulD true (.int 68891) (.int x) M = .ok (.int (68891 * x)) M := fun M x => ev_mulI M true _ x (.inl (sA _ (by omega) (by omega)))
      generalize hm1 : (cell % 4294967197 * 48017 + 22013 * a * a + 1543 * a + 17) % 4294967189 = m1
      have sm1 : small m1 = true := by rw [← hm1]; exact small_mod _ _ (by omega) (by omega)
      generalize hm2' : (m1 * m1 + 68891 * m1 + 29 * a + 7) % 4294967161 = m2
      have sm2 : small m2 = true := by rw [← hm2']; exact small_mod _ _ (by omega) (by omega)
      have e6 : ∀ M x, mulD true (.int m1) (.int x) M = .ok (.int (m1 * x)) M := fun M x => ev_mulI M true _ x (.inl sm1)
      have e7 : ∀ M x, mulD true (.int m2) (.int x) M = .ok (.int (m2 * x)) M := fun M x => ev_mulI M true _ x (.inl sm2)
      obtain ⟨d, h1, h2⟩ := toN (m2 * (m2 + 57041) % 4294967143 / 64)
      refine ⟨d, a + 1, r, h1, by omega, by omega, ?_⟩
      generalize habs : (if cell < 0 then -cell else cell) = ac at hbig
      have eabs : ∀ M, absD [.int cell] M = .ok (.int ac) M := fun M => by rw [ev_abs, habs]
      have b2 : ∀ s, (sIf (bAnd (tBl (e2 ltD (eVar 2) (eB lenD (aCons (e2 ixD (eVar 0) (eC (.str "cells"))) aNil)))) (tBl (e2 geD (eB absD (aCons (eVar 3) aNil)) (e2 powD (eC (.int 10)) (eC (.int 18)))))) s sNx) [some (.ref 0), some (.int many), some (.int a), some (.int cell), none, none] (penO cs (a + 1) r :: R) = .nx [some (.ref 0), some (.int many), some (.int a), some (.int cell), none, none] (penO cs (a + 1) r :: R) := fun s => by
        by_cases q1 : a < (cs.length : Int)
        · have q2 : ¬ 1000000000000000000 ≤ ac := fun z => hbig ⟨q1, z⟩
          simp only [ev_sif, ev_bAnd, ev_tBl, ev_e2, ev_var, List.getElem?_cons_zero, List.getElem?_cons_succ, Rs.bind_ok, ev_C, ev_B, ev_cons, ix_cells, ev_nil, ev_lenL, List.length_map, ev_lt, q1, decide_true, if_true, eabs, p10, ev_ge, q2, decide_false, Bool.false_eq_true, if_false, Rs.stm_ok, ev_nx]
        · simp only [ev_sif, ev_bAnd, ev_tBl, ev_e2, ev_var, List.getElem?_cons_zero, List.getElem?_cons_succ, Rs.bind_ok, ev_C, ev_B, ev_cons, ix_cells, ev_nil, ev_lenL, List.length_map, ev_lt, q1, decide_false, Bool.false_eq_true, if_false, Rs.stm_ok, ev_nx]
      have k1 : (0 : Int) < 4294967197 := by omega
      have k2 : (0 : Int) < 4294967189 := by omega
      have k3 : (0 : Int) < 4294967161 := by omega
      have k4 : (0 : Int) < 4294967143 := by omega
      have k5 : (0 : Int) < 64 ∧ (64 : Int) < 1073741824 := by omega
      simp only [F__law_draw, B__law_draw, defF, startD, List.map_cons, List.map_nil, List.length_cons, List.length_nil, List.replicate, List.cons_append, List.nil_append]
      rw [seq_skip _ _ _ _ _ (penO cs a r :: R) (by simp only [ev_tBl, ev_e2, ev_var, List.getElem?_cons_zero, Rs.bind_ok, ev_C, ix_rest, ev_gt, hr, decide_false])]
      rw [seq_nx _ _ _ [some (.ref 0), some (.int many), some (.int a), none, none, none] _ (penO cs a r :: R) (by simp only [ev_asg, ev_e2, ev_var, List.getElem?_cons_zero, Rs.bind_ok, ev_C, ix_at, Rs.stm_ok, ev_gN, nxO_ok, List.set_cons_succ, List.set_cons_zero, List.replicate, Nat.reduceSub, List.length_cons, List.length_nil, Nat.reduceAdd, List.append])]
      rw [seq_nx _ _ _ [some (.ref 0), some (.int many), some (.int a), none, none, none] _ (penO cs (a + 1) r :: R) (by simp only [ev_asg, ev_e2, ev_var, List.getElem?_cons_zero, List.getElem?_cons_succ, Rs.bind_ok, ev_C, ev_addI, Rs.stm_ok, ev_gSub, set_at, nxO_ok])]
      rw [seq_nx _ _ _ [some (.ref 0), some (.int many), some (.int a), some (.int (61 * a + 83)), none, none] _ (penO cs (a + 1) r :: R) (by simp only [ev_asg, ev_e2, ev_var, List.getElem?_cons_zero, List.getElem?_cons_succ, Rs.bind_ok, ev_C, e47, ev_addI, Rs.stm_ok, ev_gN, nxO_ok, List.set_cons_succ, List.set_cons_zero])]
      rw [seq_nx _ _ _ _ _ _ b1]
      rw [seq_nx _ _ _ _ _ _ (b2 _)]
      simp only [ev_seq, ev_asg, ev_B, ev_cons, ev_var, ev_nil, List.getElem?_cons_zero, List.getElem?_cons_succ, List.set_cons_succ, List.set_cons_zero, Rs.bind_ok, ev_int, ev_mod, k1, if_true, e1, e2', e3, ev_addI, Rs.stm_ok, ev_gN, nxO_ok, ← Int.add_assoc, k2, hm1, e5, e6, k3, hm2', e7, k4, ev_fdiv, k5, and_self, ev_ret, hm0, h2, drop_pen, ev_C, ev_e2]
end
end Dl

set_option Elab.async false
set_option linter.all false
set_option autoImplicit false
set_option maxRecDepth 100000
set_option maxHeartbeats 4000000
/-! drawing: picks, shuffles. -/
namespace Dl
noncomputable section
open PySem PySem.Spec L2
/-- the memory begins with a pen that has drawn at most c times -/
def Pn (c : Int) (M R : Mem) : Prop := ∃ cs a r, M = penO cs a r :: R ∧ cs.length ≤ 63 ∧ 0 ≤ a ∧ a ≤ c
theorem Pn.mono {c c' : Int} {M R : Mem} (h : Pn c M R) (hc : c ≤ c') : Pn c' M R := by
  obtain ⟨cs, a, r, h1, h2, h3, h4⟩ := h
  exact ⟨cs, a, r, h1, h2, h3, by omega⟩
theorem Pn.app {c : Int} {M R : Mem} (h : Pn c M R) (N : Mem) : Pn c (M ++ N) (R ++ N) := by
  obtain ⟨cs, a, r, rfl, h2, h3, h4⟩ := h
  exact ⟨cs, a, r, rfl, h2, h3, h4⟩
theorem Pn.len {c : Int} {M R : Mem} (h : Pn c M R) : M.length = R.length + 1 := by
  obtain ⟨cs, a, r, rfl, _⟩ := h
  rfl
/-- what a def added is forgotten, the pen stays -/
theorem bel_pen (k : Nat) (cs : List Int) (a r : Int) : belO k (penO cs a r) = true := by
  unfold penO belO
  simp only [List.map_cons, List.map_nil, bels, bel, Bool.and_true]
  exact bel_ints _ _ fun d hd => by obtain ⟨i, _, rfl⟩ := List.mem_map.mp hd; exact ⟨i, rfl⟩
theorem Pn.drop {c c' : Int} {M M' R N : Mem} (h : Pn c M R) (h' : Pn c' M' (R ++ N)) {d : D} (hd : bel M.length d = true) : Pn c' (dropM M d M') R := by
  obtain ⟨cs, a, r, rfl, _⟩ := h
  obtain ⟨cs', a', r', rfl, h2, h3, h4⟩ := h'
  have := dropM_set (M := penO cs a r :: R) (d := d) (N := N) (n := 0) (o := penO cs' a' r') hd (bel_pen _ _ _ _)
  rw [List.set_cons_zero] at this
  exact ⟨cs', a', r', this, h2, h3, h4⟩
theorem drawP {c : Int} {M R : Mem} (h : Pn c M R) (hc : c ≤ 1000000000) {many : Nat} (hm : 0 < many) (hm2 : many < 1000000) :
    ∃ (d : Nat) (M' : Mem), d < many ∧ Pn (c + 1) M' R ∧ F__law_draw [.ref 0, .int many] M = .ok (.int d) M' := by
  obtain ⟨cs, a, r, rfl, h2, h3, h4⟩ := h
  obtain ⟨d, a', r', h5, h6, h7, e⟩ := eq_draw R cs a r many h3 (by omega) hm hm2 h2
  exact ⟨d, _, h5, ⟨cs, a', r', rfl, h2, h6, by omega⟩, e⟩
theorem eq_pick {c : Int} {M R : Mem} (h : Pn c M R) (hc : c ≤ 1000000000) {ds : List D} (h0 : 0 < ds.length) (h1 : ds.length < 1000000) :
    ∃ (d : D) (M' : Mem), d ∈ ds ∧ Pn (c + 1) M' R ∧ F__law_pick [.ref 0, .lst ds] M = .ok d M' := by
  obtain ⟨k, M', h2, h3, e⟩ := drawP h hc h0 h1
  refine ⟨ds[k], M', List.getElem_mem h2, h3, ?_⟩
  have l1 : lenD [.lst ds] M = .ok (.int (ds.length : Nat)) M := rfl
  have g : ixD (.lst ds) (.int k) M' = .ok ds[k] M' := by rw [ev_ixL, atI_nat, List.getElem?_eq_getElem h2]; rfl
  have dr : dropM M ds[k] M' = M' := dropM_same (by rw [h.len, h3.len])
  simp only [F__law_pick, B__law_pick, defF, startD, List.map_cons, List.map_nil, List.length_cons, List.length_nil, List.replicate, List.cons_append, List.nil_append, ev_ret, ev_e2, ev_var, List.getElem?_cons_zero, List.getElem?_cons_succ, Rs.bind_ok, ev_call, ev_cons, ev_B, ev_nil, l1, if_true, e, g, Rs.stm_ok, dr, Nat.reduceAdd]
section
variable (p : Ob) (R : Mem) (x y : Ob)
theorem g_1 : (p :: (R ++ [x, y]))[R.length + 1]? = some x := by
  rw [List.getElem?_cons_succ, List.getElem?_append_right (Nat.le_refl _)]; simp
theorem g_2 : (p :: (R ++ [x, y]))[R.length + 2]? = some y := by
  rw [List.getElem?_cons_succ, List.getElem?_append_right (by omega)]; simp
theorem s_1 (x' : Ob) : (p :: (R ++ [x, y])).set (R.length + 1) x' = p :: (R ++ [x', y]) := by
  rw [List.set_cons_succ, List.set_append_right _ _ (Nat.le_refl _)]; simp
theorem s_2 (y' : Ob) : (p :: (R ++ [x, y])).set (R.length + 2) y' = p :: (R ++ [x, y']) := by
  rw [List.set_cons_succ, List.set_append_right _ _ (by omega)]; simp
end
theorem erase_map {α β : Type} (f : α → β) : ∀ (l : List α) (d : Nat), (l.map f).eraseIdx d = (l.eraseIdx d).map f
  | [], d => by simp
  | x :: l, 0 => rfl
  | x :: l, d + 1 => by
    rw [List.map_cons, List.eraseIdx_cons_succ, List.eraseIdx_cons_succ, List.map_cons, erase_map f l d]
theorem erase_perm {α : Type} : ∀ (l : List α) (d : Nat) (h : d < l.length), (l[d] :: l.eraseIdx d).Perm l
  | [], d, h => by simp at h
  | x :: l, 0, h => List.Perm.refl _
  | x :: l, d + 1, h => by
    have ih := erase_perm l d (by simpa using h)
    rw [List.eraseIdx_cons_succ]
    exact (List.Perm.swap _ _ _).trans (ih.cons x)
/-- the loop of a shuffle -/
theorem shuffle_loop {R : Mem} (x0 x1 : Option D) : ∀ (k fuel : Nat) (l f : List Nat) (c : Int) (M : Mem), l.length = k → k < fuel → l.length + f.length ≤ 1000 → c + k ≤ 1000000000 → Pn c M (R ++ [.lst (natsD l), .lst (natsD f)]) → x0 = some (.ref 0) →
    ∃ (f' : List Nat) (M' : Mem), f'.Perm (l ++ f) ∧ Pn (c + k) M' (R ++ [.lst (natsD []), .lst (natsD f')]) ∧
      whL (tBl (e2 (eqD true) (eVar 2) (eLst true aNil))) B__law_shuffled_while1 fuel [x0, x1, some (.ref (R.length + 1)), some (.ref (R.length + 2))] M = .nx [x0, x1, some (.ref (R.length + 1)), some (.ref (R.length + 2))] M' := by
  intro k
  induction k with
  | zero =>
    intro fuel l f c M hl hf _ _ hP hx
    have : l = [] := List.eq_nil_of_length_eq_zero hl
    subst this
    obtain ⟨fu, rfl⟩ : ∃ fu, fuel = fu + 1 := ⟨fuel - 1, by omega⟩
    refine ⟨f, M, by simp, hP.mono (by omega), ?_⟩
    obtain ⟨cs, a, r, rfl, _⟩ := hP
    have n1 := ev_neNilR (penO cs a r :: (R ++ [.lst (natsD []), .lst (natsD f)])) true (R.length + 1) [] (by rw [g_1]; rfl)
    have m0 : mkL true ([] : List D) (penO cs a r :: (R ++ [.lst (natsD []), .lst (natsD f)])) = .ok (.lst []) _ := mkL_true _ _ (Nat.zero_le _)
    rw [whL]
    simp only [ev_tBl, ev_e2, ev_var, List.getElem?_cons_zero, List.getElem?_cons_succ, Rs.bind_ok, ev_lst, ev_nil, m0, n1, List.isEmpty_nil, Bool.not_true, Rs.stm_ok, Bool.false_eq_true, if_false, if_true]
  | succ k ih =>
    intro fuel l f c M hl hf hlf hc hP hx
    subst hx
    obtain ⟨fu, rfl⟩ : ∃ fu, fuel = fu + 1 := ⟨fuel - 1, by omega⟩
    obtain ⟨d, M1, hd, hP1, e1⟩ := drawP hP (by omega) (many := l.length) (by omega) (by omega)
    obtain ⟨cs, a, r, rfl, hcs⟩ := hP
    obtain ⟨cs', a', r', rfl, hcs'⟩ := hP1
    have hl0 : l.isEmpty = false := by cases l with
      | nil => simp at hl
      | cons _ _ => rfl
    have n1 := ev_neNilR (penO cs a r :: (R ++ [.lst (natsD l), .lst (natsD f)])) true (R.length + 1) (l.map fun (q : Nat) => (q : Int)) (by rw [g_1, natsD_ints])
    have m0 : mkL true ([] : List D) (penO cs a r :: (R ++ [.lst (natsD l), .lst (natsD f)])) = .ok (.lst []) _ := mkL_true _ _ (Nat.zero_le _)
    have gl : getL (penO cs a r :: (R ++ [.lst (natsD l), .lst (natsD f)])) (.ref (R.length + 1)) = some (natsD l) := by simp only [getL, g_1]
    have gf : getL (penO cs a r :: (R ++ [.lst (natsD l), .lst (natsD f)])) (.ref (R.length + 2)) = some (natsD f) := by simp only [getL, g_2]
    have ll : lenD [.ref (R.length + 1)] (penO cs a r :: (R ++ [.lst (natsD l), .lst (natsD f)])) = .ok (.int (l.length : Nat)) (penO cs a r :: (R ++ [.lst (natsD l), .lst (natsD f)])) := by
      simp only [lenD, getQ, getS, gl]
      simp [natsD]
    have po : popD (.ref (R.length + 1)) [.int d] (penO cs' a' r' :: (R ++ [.lst (natsD l), .lst (natsD f)])) = .ok (.int (l[d] : Nat)) (penO cs' a' r' :: (R ++ [.lst (natsD (l.eraseIdx d)), .lst (natsD f)])) := by
      simp only [popD, refL, g_1, Int.toNat_natCast]
      rw [if_pos (by simp; omega)]
      have : (natsD l)[d]? = some (.int (l[d] : Nat)) := by simp [natsD, hd]
      simp only [this, s_1]
      congr 3
      simp only [natsD, erase_map]
    have ap : appendD (.ref (R.length + 2)) [.int (l[d] : Nat)] (penO cs' a' r' :: (R ++ [.lst (natsD (l.eraseIdx d)), .lst (natsD f)])) = .ok .non (penO cs' a' r' :: (R ++ [.lst (natsD (l.eraseIdx d)), .lst (natsD (f ++ [l[d]]))])) := by
      simp only [appendD, refL, g_2]
      rw [if_pos (by have := sizeLine_eq; simp [natsD]; omega), s_2]
      congr 3
      simp [natsD]
    have hlen : (l.eraseIdx d).length = k := by rw [List.length_eraseIdx]; rw [if_pos hd]; omega
    obtain ⟨f', M', h1, h2, h3⟩ := ih fu (l.eraseIdx d) (f ++ [l[d]]) (c + 1) (penO cs' a' r' :: (R ++ [.lst (natsD (l.eraseIdx d)), .lst (natsD (f ++ [l[d]]))])) hlen (by omega) (by rw [hlen]; simp; omega) (by omega) ⟨cs', a', r', rfl, hcs'.1, hcs'.2.1, hcs'.2.2⟩ rfl
    refine ⟨f', M', h1.trans ?_, h2.mono (by push_cast; omega), ?_⟩
    · have p1 : (l[d] :: l.eraseIdx d).Perm l := erase_perm l d hd
      have p2 : (l.eraseIdx d ++ (f ++ [l[d]])).Perm (l[d] :: l.eraseIdx d ++ f) := by
        rw [← List.append_assoc]
        exact List.perm_append_singleton _ _
      exact p2.trans (p1.append_right f)
    · rw [whL]
      simp only [if_true] at n1
      simp only [ev_tBl, ev_e2, ev_var, List.getElem?_cons_zero, List.getElem?_cons_succ, Rs.bind_ok, ev_lst, ev_nil, m0, n1, List.isEmpty_map, hl0, Bool.not_false, Rs.stm_ok, if_true, B__law_shuffled_while1, ev_expr, ev_BM, gf, gl, ev_cons, ev_call, ev_B, ll, List.length_cons, List.length_nil, e1, po, ap, Nat.reduceAdd]
      exact h3
theorem eq_shuffled {c : Int} {M R : Mem} (h : Pn c M R) (items : List Nat) (hl : items.length ≤ 100) (hc : c ≤ 1000000) :
    ∃ (row : List Nat) (M' : Mem), row.Perm items ∧ Pn (c + items.length) M' R ∧ F__law_shuffled [.ref 0, .lst (natsD items)] M = .ok (.lst (natsD row)) M' := by
  have hlen := h.len
  have h0 := h
  obtain ⟨cs, a, r, rfl, hcs⟩ := h
  have m1 : listD false [.lst (natsD items)] (penO cs a r :: R) = .ok (.ref (R.length + 1)) (penO cs a r :: (R ++ [.lst (natsD items)])) := by
    show mkL false (natsD items) (penO cs a r :: R) = _
    rw [mkL_false _ _ (by simp [natsD, sizeLine_eq]; omega)]
    rfl
  have m2 : mkL false ([] : List D) (penO cs a r :: (R ++ [.lst (natsD items)])) = .ok (.ref (R.length + 2)) (penO cs a r :: (R ++ [.lst (natsD items), .lst (natsD [])])) := by
    rw [mkL_false _ _ (Nat.zero_le _)]
    simp [natsD]
  obtain ⟨f', M', p1, P1, e1⟩ := shuffle_loop (R := R) (some (.ref 0)) (some (.lst (natsD items))) items.length 100000 items [] c (penO cs a r :: (R ++ [.lst (natsD items), .lst (natsD [])])) rfl (by omega) (by simp; omega) (by omega) ⟨cs, a, r, rfl, hcs⟩ rfl
  rw [List.append_nil] at p1
  obtain ⟨cs', a', r', rfl, hcs'⟩ := P1
  have fz : fzM (.ref (R.length + 2)) (penO cs' a' r' :: (R ++ [.lst (natsD []), .lst (natsD f')])) = .ok (.lst (natsD f')) (penO cs' a' r' :: (R ++ [.lst (natsD []), .dead])) := by
    simp only [fzM, g_2, s_2]
  have dr := Pn.drop h0 (c' := c + items.length) (M' := penO cs' a' r' :: (R ++ [.lst (natsD []), .dead])) (N := [.lst (natsD []), .dead]) ⟨cs', a', r', rfl, hcs'⟩ (d := .lst (natsD f')) (by rw [bel]; exact bel_nats _ _)
  refine ⟨f', dropM (penO cs a r :: R) (.lst (natsD f')) (penO cs' a' r' :: (R ++ [.lst (natsD []), .dead])), p1, dr, ?_⟩
  simp only [F__law_shuffled, B__law_shuffled, defF, startD, List.map_cons, List.map_nil, List.length_cons, List.length_nil, List.replicate, List.cons_append, List.nil_append, ev_seq, ev_par, ev_cons, ev_B, ev_var, List.getElem?_cons_zero, List.getElem?_cons_succ, Rs.bind_ok, ev_nil, m1, ev_lst, m2, Rs.stm_ok, List.set_cons_succ, List.set_cons_zero, sWhile, e1, ev_ret, ev_fz, fz, Nat.reduceAdd, Nat.reduceSub]
end
end Dl

set_option Elab.async false
set_option linter.all false
set_option autoImplicit false
set_option maxRecDepth 100000
set_option maxHeartbeats 4000000
/-! some web. -/
namespace Dl
noncomputable section
open PySem PySem.Spec L2
def TOk (n : Nat) (ps : List Tie) : Prop := ∀ t ∈ ps, t.1 < t.2 ∧ t.2 < n
def TOl (lp : Bool) (n : Nat) (ps : List Tie) : Prop := ∀ t ∈ ps, t.1 ≤ t.2 ∧ t.2 < n ∧ (lp = false → t.1 < t.2)
theorem TOk.l {lp : Bool} {n : Nat} {a : List Tie} (h : TOk n a) : TOl lp n a := fun t ht => ⟨Nat.le_of_lt (h t ht).1, (h t ht).2, fun _ => (h t ht).1⟩
theorem TOl.app {lp : Bool} {n : Nat} {a b : List Tie} (h : TOl lp n a) (k : TOl lp n b) : TOl lp n (a ++ b) := fun t ht => (List.mem_append.mp ht).elim (h t) (k t)
theorem nodup_at {α : Type} {l : List α} (h : l.Nodup) {i j : Nat} (hi : i < l.length) (hj : j < l.length) (e : l[i] = l[j]) : i = j := by
  have p := List.pairwise_iff_getElem.mp h
  by_cases h1 : i < j
  · exact absurd e (p i j hi hj h1)
  · by_cases h2 : j < i
    · exact absurd e.symm (p j i hj hi h2)
    · omega
theorem TOk.app {n : Nat} {a b : List Tie} (h : TOk n a) (k : TOk n b) : TOk n (a ++ b) := fun t ht => (List.mem_append.mp ht).elim (h t) (k t)
theorem rng2_ok (i j : Nat) (h : i ≤ 1000) (h2 : j ≤ 1000) : rng2 [.int i, .int j] = some ((List.range (j - i)).map fun (q : Nat) => D.int ((i + q : Nat) : Int)) := by
  show (if rok (i : Int) && rok (j : Int) then some (rangeD i ((j : Int) - i).toNat) else none) = _
  rw [if_pos (by unfold rok; simp; omega)]
  have : ((j : Int) - i).toNat = j - i := by omega
  rw [this]
  simp [rangeD]
section
variable (M : Mem)
/-- all pairs -/
def prs (n : Nat) : List (List Tie) := (List.range n).map fun one => (List.range (n - (one + 1))).map fun q => (one, one + 1 + q)
theorem prs_ok (n : Nat) : TOk n (prs n).flatten := by
  intro t ht
  obtain ⟨l, hl, htl⟩ := List.mem_flatten.mp ht
  obtain ⟨one, h1, rfl⟩ := List.mem_map.mp hl
  obtain ⟨q, h2, rfl⟩ := List.mem_map.mp htl
  have := List.mem_range.mp h1
  have := List.mem_range.mp h2
  simp only
  omega
theorem prs_len {n : Nat} (hn : n ≤ 10) : (prs n).flatten.length ≤ 45 := by
  have : ∀ m : Fin 11, (prs m.val).flatten.length ≤ 45 := by decide
  exact this ⟨n, by omega⟩
theorem prs_eval {n : Nat} (hn : n ≤ 10) (x0 x2 x3 x4 x5 x6 x7 x8 x9 x10 x11 x12 x13 : Option D) :
    (eB sumLsD (aCons (eLc true (aRng rng1 (aCons (eVar 1) aNil)) (gN 9) tYes' (eLc true (aRng rng2 (aCons (e2 (addD true) (eVar 9) (eC (.int 1))) (aCons (eVar 1) aNil))) (gN 10) tYes' (eTup (aCons (eVar 9) (aCons (eVar 10) aNil))) [10]) [9]) (aCons (eLst true aNil) aNil))) [x0, some (.int n), x2, x3, x4, x5, x6, x7, x8, x9, x10, x11, x12, x13] M = .ok (.lst ((prs n).flatten.map tieD)) M := by
  have q : compL (gN 9) tYes' (eLc true (aRng rng2 (aCons (e2 (addD true) (eVar 9) (eC (.int 1))) (aCons (eVar 1) aNil))) (gN 10) tYes' (eTup (aCons (eVar 9) (aCons (eVar 10) aNil))) [10]) [x0, some (.int n), x2, x3, x4, x5, x6, x7, x8, none, x10, x11, x12, x13] ((List.range n).map fun (i : Nat) => D.int i) M [] = .ok ((prs n).map fun l => D.lst (l.map tieD)) M := by
    have := compL_map (gm := gN 9) (tt := tYes') (el := eLc true (aRng rng2 (aCons (e2 (addD true) (eVar 9) (eC (.int 1))) (aCons (eVar 1) aNil))) (gN 10) tYes' (eTup (aCons (eVar 9) (aCons (eVar 10) aNil))) [10]) (δ := [x0, some (.int n), x2, x3, x4, x5, x6, x7, x8, none, x10, x11, x12, x13]) (M := M) (items := (List.range n).map fun (i : Nat) => D.int i) (acc := [])
      (fun d => match d with | .int i => .lst (((List.range (n - (i.toNat + 1))).map fun q => ((i.toNat, i.toNat + 1 + q) : Tie)).map tieD) | d => d) (by rw [List.length_map, List.length_range, List.length_nil]; omega) (fun d hd => by
        obtain ⟨one, h1, rfl⟩ := List.mem_map.mp hd
        have h1' := List.mem_range.mp h1
        refine ⟨_, rfl, rfl, ?_⟩
        have r := rng2_ok (one + 1) n (by omega) (by omega)
        have q2 : compL (gN 10) tYes' (eTup (aCons (eVar 9) (aCons (eVar 10) aNil))) [x0, some (.int n), x2, x3, x4, x5, x6, x7, x8, some (.int one), none, x11, x12, x13] ((List.range (n - (one + 1))).map fun (q : Nat) => D.int ((one + 1 + q : Nat) : Int)) M [] = .ok (((List.range (n - (one + 1))).map fun q => ((one, one + 1 + q) : Tie)).map tieD) M := by
          have := compL_map (gm := gN 10) (tt := tYes') (el := eTup (aCons (eVar 9) (aCons (eVar 10) aNil))) (δ := [x0, some (.int n), x2, x3, x4, x5, x6, x7, x8, some (.int one), none, x11, x12, x13]) (M := M) (items := (List.range (n - (one + 1))).map fun (q : Nat) => D.int ((one + 1 + q : Nat) : Int)) (acc := [])
            (fun d => .tup [.int one, d]) (by simp; omega) (fun d hd => ⟨_, rfl, rfl, by simp [sz_of]⟩)
          rw [this, List.nil_append, List.map_map, List.map_map]
          congr 1
        have m := mkL_true M (((List.range (n - (one + 1))).map fun q => ((one, one + 1 + q) : Tie)).map tieD) (by simp [sizeLine_eq]; omega)
        have ec : ((one : Int) + 1) = ((one + 1 : Nat) : Int) := by simp
        simp only [ev_lc, ev_aRng, ev_cons, ev_e2, ev_var, List.set_cons_succ, List.set_cons_zero, List.getElem?_cons_zero, List.getElem?_cons_succ, Rs.bind_ok, ev_C, ev_addI, ev_nil, ec, r, ofO_some, wipeD, q2, m, Int.toNat_natCast])
    rw [this, List.nil_append, List.map_map, prs, List.map_map]
    congr 1
  have r1 := range1 n (by omega)
  have m1 := mkL_true M ((prs n).map fun l => D.lst (l.map tieD)) (by simp [prs, sizeLine_eq]; omega)
  have m0 : mkL true ([] : List D) M = .ok (.lst []) M := mkL_true _ _ (Nat.zero_le _)
  have gl : ∀ ls : List (List Tie), getLs M (ls.map fun l => D.lst (l.map tieD)) = some (ls.map fun l => l.map tieD) := by
    intro ls
    induction ls with
    | nil => rfl
    | cons l ls ih => rw [List.map_cons, getLs, ih]; rfl
  have s : sumLsD [.lst ((prs n).map fun l => D.lst (l.map tieD)), .lst []] M = .ok (.lst ((prs n).flatten.map tieD)) M := by
    have := prs_len hn
    simp only [sumLsD, getS, getL, Option.bind_some, gl]
    have hf : ((prs n).map fun l => l.map tieD).flatten = (prs n).flatten.map tieD := by rw [List.map_flatten]
    rw [hf, if_pos (sz_of (by simp only [List.length_nil, List.length_map]; omega)), List.nil_append]
  generalize ((prs n).map fun l => D.lst (l.map tieD)) = zs at q m1 s
  simp only [ev_B, ev_cons, ev_lc, ev_aRng, ev_var, List.getElem?_cons_zero, List.getElem?_cons_succ, Rs.bind_ok, ev_nil, r1, ofO_some, wipeD, List.set_cons_succ, List.set_cons_zero, q, m1, ev_lst, m0, s]
theorem atI_neg1 {α : Type} (l : List α) (h : 0 < l.length) : L2.atI l (-1) = l[l.length - 1]? := by
  unfold L2.atI ixN
  have : (-1 : Int) + (l.length : Int) = ((l.length - 1 : Nat) : Int) := by omega
  have h1 : (1 : Int) ≤ (l.length : Int) := by omega
  simp [seqIndex?, h, this, h1]
end
/-- the chain of an order -/
theorem chain_loop {R : Mem} {n : Nat} {row : List Nat} (hr : ∀ x ∈ row, x < n) (hnd : row.Nodup) (hlen : row.length = n) (hn : n ≤ 10) (lo : Nat) (hlo : 1 ≤ lo ∨ 2 < n) (x0 x2 x3 x4 x5 x9 x10 x11 x12 x13 x8 : Option D) (c : Int) (M : Mem) (hP : Pn c M (R ++ [.lst []])) :
    ∃ (ps : List Tie) (M' : Mem) (y8 : Option D), TOk n ps ∧ ps.length ≤ 10 ∧ Pn c M' (R ++ [.lst (ps.map tieD)]) ∧
      forL (gN 8) B__law_some_web_for1 ((List.range (n - lo)).map fun (q : Nat) => D.int ((lo + q : Nat) : Int)) [x0, some (.int n), x2, x3, x4, x5, some (.ref (R.length + 1)), some (.lst (natsD row)), x8, x9, x10, x11, x12, x13] M =
        .nx [x0, some (.int n), x2, x3, x4, x5, some (.ref (R.length + 1)), some (.lst (natsD row)), y8, x9, x10, x11, x12, x13] M' := by
  obtain ⟨δ', M', e, ps, y8, h1, h2, h3, rfl⟩ := forL_inv (gm := gN 8) (body := B__law_some_web_for1) (items := (List.range (n - lo)).map fun (q : Nat) => D.int ((lo + q : Nat) : Int)) (δ := [x0, some (.int n), x2, x3, x4, x5, some (.ref (R.length + 1)), some (.lst (natsD row)), x8, x9, x10, x11, x12, x13]) (M := M)
    (fun i δ M' => ∃ (ps : List Tie) (y8 : Option D), TOk n ps ∧ ps.length = i ∧ Pn c M' (R ++ [.lst (ps.map tieD)]) ∧ δ = [x0, some (.int n), x2, x3, x4, x5, some (.ref (R.length + 1)), some (.lst (natsD row)), y8, x9, x10, x11, x12, x13])
    ⟨[], x8, (fun t ht => by simp at ht), rfl, hP, rfl⟩ (fun i d δ M' hd ⟨ps, y8, h1, h2, h3, h4⟩ => by
      subst h4
      have hi : i < n - lo := by have := (List.getElem?_eq_some_iff.mp hd).1; simpa using this
      have hd' : d = .int ((lo + i : Nat) : Int) := by
        rw [List.getElem?_map, List.getElem?_range hi] at hd
        exact (Option.some.inj hd).symm
      subst hd'
      have hk : lo + i < row.length := by omega
      have g1 : ixD (.lst (natsD row)) (.int ((lo + i : Nat) : Int)) M' = .ok (.int (row[lo + i] : Nat)) M' := by
        rw [ev_ixL, atI_nat]; simp [natsD, hk]
      obtain ⟨u, hu, huv, g2⟩ : ∃ u : Nat, u < n ∧ u ≠ row[lo + i] ∧ ixD (.lst (natsD row)) (.int (((lo + i : Nat) : Int) - 1)) M' = .ok (.int (u : Nat)) M' := by
        by_cases h0 : lo + i = 0
        · have hl0 : 0 < (natsD row).length := by simp [natsD]; omega
          refine ⟨row[row.length - 1], hr _ (List.getElem_mem _), fun z => by have := nodup_at hnd _ _ z; omega, ?_⟩
          rw [ev_ixL, h0]
          rw [show (((0 : Nat) : Int) - 1) = -1 by rfl, atI_neg1 _ hl0]
          have : row.length - 1 < row.length := by omega
          simp [natsD, this]
        · have h3 : lo + i - 1 < row.length := by omega
          refine ⟨row[lo + i - 1], hr _ (List.getElem_mem _), fun z => by have := nodup_at hnd _ _ z; omega, ?_⟩
          rw [show (((lo + i : Nat) : Int) - 1) = ((lo + i - 1 : Nat) : Int) by omega, ev_ixL, atI_nat]
          simp [natsD, h3]
      have hv : row[lo + i] < n := hr _ (List.getElem_mem _)
      generalize row[lo + i] = v at g1 hv huv
      have mn : min2D [.int (u : Nat), .int (v : Nat)] M' = .ok (.int (min u v : Nat)) M' := by
        rw [ev_min2]
        by_cases h : (v : Int) < u
        · have : min u v = v := by omega
          rw [if_pos h, this]
        · have : min u v = u := by omega
          rw [if_neg h, this]
      have mx := max_nat M' u v
      obtain ⟨cs, a, r, rfl, hcs⟩ := h3
      have e1 : (penO cs a r :: (R ++ [.lst (ps.map tieD)]))[R.length + 1]? = some (.lst (ps.map tieD)) := by
        rw [List.getElem?_cons_succ, List.getElem?_append_right (Nat.le_refl _)]; simp
      have gl : getL (penO cs a r :: (R ++ [.lst (ps.map tieD)])) (.ref (R.length + 1)) = some (ps.map tieD) := by simp only [getL, e1]
      have ap : appendD (.ref (R.length + 1)) [.tup [.int (min u v : Nat), .int (max u v : Nat)]] (penO cs a r :: (R ++ [.lst (ps.map tieD)])) = .ok .non (penO cs a r :: (R ++ [.lst ((ps ++ [(min u v, max u v)]).map tieD)])) := by
        simp only [appendD, refL, e1]
        rw [if_pos (by have := sizeLine_eq; simp; omega), List.set_cons_succ, List.set_append_right _ _ (Nat.le_refl _)]
        simp [tieD]
      refine ⟨_, _, [x0, some (.int n), x2, x3, x4, x5, some (.ref (R.length + 1)), some (.lst (natsD row)), some (.int ((lo + i : Nat) : Int)), x9, x10, x11, x12, x13], penO cs a r :: (R ++ [.lst ((ps ++ [(min u v, max u v)]).map tieD)]), rfl, ?_, ps ++ [(min u v, max u v)], _, h1.app (fun t ht => by simp at ht; subst ht; simp only; omega), by simp [h2], ⟨cs, a, r, rfl, hcs⟩, rfl⟩
      simp only [B__law_some_web_for1, ev_expr, ev_BM, ev_var, List.set_cons_succ, List.set_cons_zero, List.getElem?_cons_zero, List.getElem?_cons_succ, Rs.bind_ok, gl, ev_cons, ev_tup, ev_B, ev_e2, ev_C, ev_sub, g2, g1, ev_nil, mn, mx, List.length_cons, List.length_nil, sz_of (show 0 + 1 + 1 ≤ 1000000 by omega), if_true, ap, Rs.stm_ok])
  simp only [List.length_map, List.length_range] at h2
  exact ⟨ps, M', y8, h1, by omega, h3, e⟩
end
end Dl

set_option Elab.async false
set_option linter.all false
set_option autoImplicit false
set_option maxRecDepth 100000
set_option maxHeartbeats 4000000
/-! some web, whole. -/
namespace Dl
noncomputable section
open PySem PySem.Spec L2
/-- ties drawn out of all pairs -/
theorem draw_comp {R : Mem} {n sh : Nat} (P : List Tie) (hP : P.length ≤ 45) (x1 x2 x3 x5 x6 x7 x8 x9 x10 x12 x13 : Option D) (c : Int) (hc : c ≤ 1000000) (M : Mem) (h : Pn c M R) :
    ∃ (ps : List Tie) (M' : Mem), (∀ t ∈ ps, t ∈ P) ∧ ps.length ≤ 45 ∧ Pn (c + 45) M' R ∧
      compL (gN 11) (tBl (e2 ltD (eCall 2 F__law_draw (aCons (eVar 0) (aCons (eC (.int 5)) aNil))) (eVar 4))) (eVar 11) [some (.ref 0), x1, x2, x3, some (.int sh), x5, x6, x7, x8, x9, x10, none, x12, x13] (P.map tieD) M [] = .ok (ps.map tieD) M' := by
  obtain ⟨ys, M', e, ⟨ps, rfl, h2, h3⟩, hl⟩ := compL_inv (gm := gN 11) (tt := tBl (e2 ltD (eCall 2 F__law_draw (aCons (eVar 0) (aCons (eC (.int 5)) aNil))) (eVar 4))) (el := eVar 11) (δ := [some (.ref 0), x1, x2, x3, some (.int sh), x5, x6, x7, x8, x9, x10, none, x12, x13]) (items := P.map tieD) (M := M)
    (fun i M' acc => ∃ ps : List Tie, acc = ps.map tieD ∧ (∀ t ∈ ps, t ∈ P) ∧ Pn (c + i) M' R) ⟨[], rfl, (fun t ht => by simp at ht), h.mono (by omega)⟩ (by simp; omega) (fun i d M' acc hd ⟨ps, h1, h2, h3⟩ => by
      have hi : i < P.length := by have := (List.getElem?_eq_some_iff.mp hd).1; simpa using this
      rw [List.getElem?_map] at hd
      cases ht : P[i]? with
      | none => rw [ht] at hd; cases hd
      | some t =>
        rw [ht] at hd
        cases hd
        obtain ⟨k, M1, hk, hP1, e1⟩ := drawP h3 (by omega) (many := 5) (by omega) (by omega)
        have e1' : F__law_draw [.ref 0, .int 5] M' = .ok (.int k) M1 := e1
        refine ⟨_, M', decide ((k : Int) < sh), M1, rfl, ?_, fun _ => ⟨ps, h1, h2, hP1.mono (by push_cast; omega)⟩, fun _ => ⟨_, M1, rfl, ps ++ [t], by rw [h1, List.map_append]; rfl, fun u hu => ?_, hP1.mono (by push_cast; omega)⟩⟩
        · simp only [ev_tBl, ev_e2, ev_call, ev_cons, ev_var, List.set_cons_succ, List.set_cons_zero, List.getElem?_cons_zero, List.getElem?_cons_succ, Rs.bind_ok, ev_C, ev_nil, List.length_cons, List.length_nil, if_true, e1', ev_lt, Nat.reduceAdd]
        · rcases List.mem_append.mp hu with hu | hu
          · exact h2 u hu
          · simp at hu; subst hu; exact List.mem_of_getElem? ht)
  rw [List.length_map] at h3 hl
  rw [List.length_map] at hl
  exact ⟨ps, M', h2, by omega, h3.mono (by omega), e⟩
/-- picks -/
theorem pick_comp {R : Mem} (P : List Tie) (hP : P.length ≤ 45) (k : Nat) (hk : k ≤ 3) (h0 : k = 0 ∨ 0 < P.length) (x1 x2 x4 x5 x6 x7 x8 x9 x10 x11 x12 : Option D) (c : Int) (hc : c ≤ 1000000) (M : Mem) (h : Pn c M R) :
    ∃ (ps : List Tie) (M' : Mem), (∀ t ∈ ps, t ∈ P) ∧ ps.length ≤ 3 ∧ Pn (c + 3) M' R ∧
      compL (gN 13) tYes' (eCall 2 F__law_pick (aCons (eVar 0) (aCons (eVar 3) aNil))) [some (.ref 0), x1, x2, some (.lst (P.map tieD)), x4, x5, x6, x7, x8, x9, x10, x11, x12, none] ((List.range k).map fun (i : Nat) => D.int i) M [] = .ok (ps.map tieD) M' := by
  obtain ⟨ys, M', e, ⟨ps, rfl, h2, h3⟩, hl⟩ := compL_inv (gm := gN 13) (tt := tYes') (el := eCall 2 F__law_pick (aCons (eVar 0) (aCons (eVar 3) aNil))) (δ := [some (.ref 0), x1, x2, some (.lst (P.map tieD)), x4, x5, x6, x7, x8, x9, x10, x11, x12, none]) (items := (List.range k).map fun (i : Nat) => D.int i) (M := M)
    (fun i M' acc => ∃ ps : List Tie, acc = ps.map tieD ∧ (∀ t ∈ ps, t ∈ P) ∧ Pn (c + i) M' R) ⟨[], rfl, (fun t ht => by simp at ht), h.mono (by omega)⟩ (by simp; omega) (fun i d M' acc hd ⟨ps, h1, h2, h3⟩ => by
      have hi : i < k := by have := (List.getElem?_eq_some_iff.mp hd).1; simpa using this
      obtain ⟨d', M1, hd', hP1, e1⟩ := eq_pick h3 (by omega) (ds := P.map tieD) (by rw [List.length_map]; omega) (by rw [List.length_map]; omega)
      obtain ⟨t, ht, rfl⟩ := List.mem_map.mp hd'
      refine ⟨_, M', true, M', rfl, rfl, (fun z => nomatch z), fun _ => ⟨tieD t, M1, ?_, ps ++ [t], by rw [h1, List.map_append]; rfl, fun u hu => ?_, hP1.mono (by push_cast; omega)⟩⟩
      · simp only [ev_call, ev_cons, ev_var, List.set_cons_succ, List.set_cons_zero, List.getElem?_cons_zero, List.getElem?_cons_succ, Rs.bind_ok, ev_nil, List.length_cons, List.length_nil, if_true, e1, Nat.reduceAdd]
      · rcases List.mem_append.mp hu with hu | hu
        · exact h2 u hu
        · simp at hu; subst hu; exact ht)
  simp only [List.length_map, List.length_range] at h3 hl
  exact ⟨ps, M', h2, by omega, h3.mono (by omega), e⟩
/-- loops -/
theorem loop_comp {R : Mem} (n : Nat) (hn : n ≤ 10) (x1 x2 x3 x4 x5 x6 x7 x8 x9 x10 x11 x13 : Option D) (c : Int) (hc : c ≤ 1000000) (M : Mem) (h : Pn c M R) :
    ∃ (ps : List Tie) (M' : Mem), TOl true n ps ∧ ps.length ≤ 10 ∧ Pn (c + 10) M' R ∧
      compL (gN 12) (tBl (e2 (eqD false) (eCall 2 F__law_draw (aCons (eVar 0) (aCons (eC (.int 4)) aNil))) (eC (.int 0)))) (eTup (aCons (eVar 12) (aCons (eVar 12) aNil))) [some (.ref 0), x1, x2, x3, x4, x5, x6, x7, x8, x9, x10, x11, none, x13] ((List.range n).map fun (i : Nat) => D.int i) M [] = .ok (ps.map tieD) M' := by
  obtain ⟨ys, M', e, ⟨ps, rfl, h2, h3⟩, hl⟩ := compL_inv (gm := gN 12) (tt := tBl (e2 (eqD false) (eCall 2 F__law_draw (aCons (eVar 0) (aCons (eC (.int 4)) aNil))) (eC (.int 0)))) (el := eTup (aCons (eVar 12) (aCons (eVar 12) aNil))) (δ := [some (.ref 0), x1, x2, x3, x4, x5, x6, x7, x8, x9, x10, x11, none, x13]) (items := (List.range n).map fun (i : Nat) => D.int i) (M := M)
    (fun i M' acc => ∃ ps : List Tie, acc = ps.map tieD ∧ TOl true n ps ∧ Pn (c + i) M' R) ⟨[], rfl, (fun t ht => by simp at ht), h.mono (by omega)⟩ (by simp; omega) (fun i d M' acc hd ⟨ps, h1, h2, h3⟩ => by
      have hi : i < n := by have := (List.getElem?_eq_some_iff.mp hd).1; simpa using this
      have hd' : d = .int i := by
        rw [List.getElem?_map, List.getElem?_range hi] at hd
        exact (Option.some.inj hd).symm
      subst hd'
      obtain ⟨k, M1, hk, hP1, e1⟩ := drawP h3 (by omega) (many := 4) (by omega) (by omega)
      have e1' : F__law_draw [.ref 0, .int 4] M' = .ok (.int k) M1 := e1
      refine ⟨_, M', decide ((k : Int) = 0), M1, rfl, ?_, fun _ => ⟨ps, h1, h2, hP1.mono (by push_cast; omega)⟩, fun _ => ⟨tieD (i, i), M1, ?_, ps ++ [(i, i)], by rw [h1, List.map_append]; rfl, h2.app (fun t ht => by simp at ht; subst ht; exact ⟨Nat.le_refl _, hi, fun z => nomatch z⟩), hP1.mono (by push_cast; omega)⟩⟩
      · simp only [ev_tBl, ev_e2, ev_call, ev_cons, ev_var, List.set_cons_succ, List.set_cons_zero, List.getElem?_cons_zero, List.getElem?_cons_succ, Rs.bind_ok, ev_C, ev_nil, List.length_cons, List.length_nil, if_true, e1', ev_eqI, Bool.false_eq_true, if_false, Nat.reduceAdd]
      · simp only [ev_tup, ev_cons, ev_var, List.set_cons_succ, List.set_cons_zero, List.getElem?_cons_zero, List.getElem?_cons_succ, Rs.bind_ok, ev_nil, List.length_cons, List.length_nil, sz_of (show 0 + 1 + 1 ≤ 1000000 by omega), if_true, tieD])
  simp only [List.length_map, List.length_range] at h3 hl
  exact ⟨ps, M', h2, by omega, h3.mono (by omega), e⟩
theorem prs_pos {n : Nat} (h : (prs n).flatten = []) : (prs n).flatten.isEmpty = true := by rw [h]; rfl
/-- the three ways: the ties stand in the memory -/
def stWay : SS := (sIf (tBl (e2 (eqD false) (eVar 5) (eC (.int 0)))) (sAsg (eB (listD false) (aCons (eVar 3) aNil)) (gN 6)) (sIf (tBl (e2 ltD (eVar 5) (eC (.int 4)))) (sAsg (eLc false (aOf itL (eVar 3)) (gN 11) (tBl (e2 ltD (eCall 2 F__law_draw (aCons (eVar 0) (aCons (eC (.int 5)) aNil))) (eVar 4))) (eVar 11) [11]) (gN 6)) (sSeq (sAsg (eCall 2 F__law_shuffled (aCons (eVar 0) (aCons (eListR1 true (eVar 1)) aNil))) (gN 7)) (sSeq (sFor (aRng rng2 (aCons (eIf (bAnd (tBl (e2 (eqD false) (eVar 5) (eC (.int 4)))) (tBl (e2 gtD (eVar 1) (eC (.int 2))))) (eC (.int 0)) (eC (.int 1))) (aCons (eVar 1) aNil))) (gN 8) B__law_some_web_for1) (sAsg (e2 (addD false) (eVar 6) (eLc true (aRng rng1 (aCons (eIf (tBl (e2 (eqD true) (eVar 3) (eLst true aNil))) (eCall 2 F__law_draw (aCons (eVar 0) (aCons (eC (.int 3)) aNil))) (eC (.int 0))) aNil)) (gN 13) tYes' (eCall 2 F__law_pick (aCons (eVar 0) (aCons (eVar 3) aNil))) [13])) (gN 6))))))
theorem way_ok {R : Mem} {n way sh : Nat} {lp : Bool} (hn : n ≤ 10) (c : Int) (hc : c ≤ 100000) (M : Mem) (h : Pn c M (R ++ [.lst []])) :
    ∃ (k : Nat) (ps : List Tie) (N M' : Mem) (y7 y8 : Option D), TOk n ps ∧ ps.length ≤ 45 ∧ Pn (c + 80) M' (R ++ N) ∧ M'[k]? = some (.lst (ps.map tieD)) ∧ R.length + 1 ≤ k ∧
      stWay [some (.ref 0), some (.int n), some (.bl lp), some (.lst ((prs n).flatten.map tieD)), some (.int sh), some (.int way), some (.ref (R.length + 1)), none, none, none, none, none, none, none] M =
        .nx [some (.ref 0), some (.int n), some (.bl lp), some (.lst ((prs n).flatten.map tieD)), some (.int sh), some (.int way), some (.ref k), y7, y8, none, none, none, none, none] M' := by
  have hpl := prs_len hn
  have hpo := prs_ok n
  generalize hPe : (prs n).flatten = P at hpl hpo ⊢
  have lenM := h.len
  by_cases h0 : way = 0
  · subst h0
    refine ⟨M.length, P, [.lst []] ++ [.lst (P.map tieD)], M ++ [.lst (P.map tieD)], none, none, hpo, by omega, ?_, get_new _ _, (by have := h.len; simp at this; omega), ?_⟩
    · have := (h.app [.lst (P.map tieD)]).mono (show c ≤ c + 80 by omega)
      rwa [List.append_assoc] at this
    · have m : listD false [.lst (P.map tieD)] M = .ok (.ref M.length) (M ++ [.lst (P.map tieD)]) := mkL_false M _ (by simp [sizeLine_eq]; omega)
      simp only [stWay, ev_sif, ev_tBl, ev_e2, ev_var, List.getElem?_cons_zero, List.getElem?_cons_succ, Rs.bind_ok, ev_C, ev_eqI, Int.natCast_zero, decide_true, Bool.false_eq_true, if_false, Rs.stm_ok, if_true, ev_asg, ev_B, ev_cons, ev_nil, m, ev_gN, nxO_ok, List.set_cons_succ, List.set_cons_zero]
  · have h0' : ¬ (way : Int) = 0 := by omega
    by_cases h4 : way < 4
    · have h4' : (way : Int) < 4 := by omega
      obtain ⟨ps, M1, p1, p2, p3, e⟩ := draw_comp (sh := sh) (n := n) P hpl (some (.int n)) (some (.bl lp)) (some (.lst (P.map tieD))) (some (.int way)) (some (.ref (R.length + 1))) none none none none none none c (by omega) M h
      refine ⟨M1.length, ps, [.lst []] ++ [.lst (ps.map tieD)], M1 ++ [.lst (ps.map tieD)], none, none, fun t ht => hpo t (p1 t ht), by omega, ?_, get_new _ _, (by have := p3.len; simp at this; omega), ?_⟩
      · have := (p3.app [.lst (ps.map tieD)]).mono (show c + 45 ≤ c + 80 by omega)
        rwa [List.append_assoc] at this
      · have m : mkL false (ps.map tieD) M1 = .ok (.ref M1.length) (M1 ++ [.lst (ps.map tieD)]) := mkL_false M1 _ (by simp [sizeLine_eq]; omega)
        simp only [stWay, ev_sif, ev_tBl, ev_e2, ev_var, List.getElem?_cons_zero, List.getElem?_cons_succ, Rs.bind_ok, ev_C, ev_eqI, h0', decide_false, Bool.false_eq_true, if_false, Rs.stm_ok, ev_lt, h4', decide_true, if_true, ev_asg, ev_lc, ev_aOf, itL, ofO_some, wipeD, List.set_cons_succ, List.set_cons_zero, e, m, ev_gN, nxO_ok]
    · have h4' : ¬ (way : Int) < 4 := by omega
      obtain ⟨row, M1, p1, p2, e1⟩ := eq_shuffled h (List.range n) (by simp; omega) (by omega)
      have hr : ∀ x ∈ row, x < n := fun x hx => List.mem_range.mp (p1.mem_iff.mp hx)
      have hrl : row.length = n := by rw [p1.length_eq, List.length_range]
      have lr : listRg true 0 (n : Int) M = .ok (.lst (natsD (List.range n))) M := by
        have e : rngD 0 (n : Int) = natsD (List.range n) := by simp [rngD, natsD]
        unfold listRg
        rw [if_pos (by unfold rgOk; simp; omega), e, mkL_true _ _ (by simp [natsD, sizeLine_eq]; omega)]
      rw [List.length_range] at p2
      -- the range's beginning
      obtain ⟨lo, hlo, elo⟩ : ∃ lo : Nat, (1 ≤ lo ∨ 2 < n) ∧ lo ≤ 1 ∧ (if (decide ((way : Int) = 4) && decide ((2 : Int) < n)) = true then (0 : Int) else 1) = (lo : Int) := by
        by_cases z : (decide ((way : Int) = 4) && decide ((2 : Int) < n)) = true
        · refine ⟨0, .inr ?_, by omega, by rw [if_pos z]; rfl⟩
          simp at z; omega
        · exact ⟨1, .inl (Nat.le_refl _), by omega, by rw [if_neg z]; rfl⟩
      obtain ⟨hlo1, elo⟩ := elo
      obtain ⟨ps, M2, y8, q1, q2, q3, e2'⟩ := chain_loop (R := R) hr (p1.nodup_iff.mpr List.nodup_range) hrl hn lo hlo (some (.ref 0)) (some (.bl lp)) (some (.lst (P.map tieD))) (some (.int sh)) (some (.int way)) none none none none none none (c + n) M1 p2
      have r2 := rng2_ok lo n (by omega) (by omega)
      have t1 : ∀ (x7 x8 : Option D) M, (eIf (bAnd (tBl (e2 (eqD false) (eVar 5) (eC (.int 4)))) (tBl (e2 gtD (eVar 1) (eC (.int 2))))) (eC (.int 0)) (eC (.int 1))) [some (.ref 0), some (.int n), some (.bl lp), some (.lst (P.map tieD)), some (.int sh), some (.int way), some (.ref (R.length + 1)), x7, x8, none, none, none, none, none] M = .ok (.int lo) M := fun x7 x8 M => by
        rw [← elo]
        by_cases z1 : (way : Int) = 4
        · by_cases z2 : (2 : Int) < n
          · simp [z1, z2]
          · simp [z1, z2]
        · simp [z1]
      -- the picks
      obtain ⟨kk, M3, hkk, hk0, q4, e3⟩ : ∃ (kk : Nat) (M3 : Mem), kk ≤ 3 ∧ (kk = 0 ∨ 0 < P.length) ∧ Pn (c + n + 1) M3 (R ++ [.lst (ps.map tieD)]) ∧
          (eIf (tBl (e2 (eqD true) (eVar 3) (eLst true aNil))) (eCall 2 F__law_draw (aCons (eVar 0) (aCons (eC (.int 3)) aNil))) (eC (.int 0))) [some (.ref 0), some (.int n), some (.bl lp), some (.lst (P.map tieD)), some (.int sh), some (.int way), some (.ref (R.length + 1)), some (.lst (natsD row)), y8, none, none, none, none, none] M2 = .ok (.int kk) M3 := by
        have m0 : mkL true ([] : List D) M2 = .ok (.lst []) M2 := mkL_true _ _ (Nat.zero_le _)
        have n1 := ev_neNilT M2 true P
        simp only [if_true] at n1
        cases hPe2 : P.isEmpty with
        | true =>
          refine ⟨0, M2, by omega, .inl rfl, q3.mono (by omega), ?_⟩
          simp only [ev_if, ev_tBl, ev_e2, ev_var, List.getElem?_cons_zero, List.getElem?_cons_succ, Rs.bind_ok, ev_lst, ev_nil, m0, n1, hPe2, Bool.not_true, Bool.false_eq_true, if_false, ev_C]
          rfl
        | false =>
          obtain ⟨d, M3, hd, hP3, e3⟩ := drawP q3 (by omega) (many := 3) (by omega) (by omega)
          have e3' : F__law_draw [.ref 0, .int 3] M2 = .ok (.int d) M3 := e3
          refine ⟨d, M3, by omega, .inr ?_, hP3, ?_⟩
          · cases P with
            | nil => cases hPe2
            | cons _ _ => simp
          · simp only [ev_if, ev_tBl, ev_e2, ev_var, List.getElem?_cons_zero, List.getElem?_cons_succ, Rs.bind_ok, ev_lst, ev_nil, m0, n1, hPe2, Bool.not_false, if_true, ev_C, ev_call, ev_cons, List.length_cons, List.length_nil, e3', Nat.reduceAdd]
      obtain ⟨qs, M4, u1, u2, u3, e4⟩ := pick_comp P hpl kk hkk hk0 (some (.int n)) (some (.bl lp)) (some (.int sh)) (some (.int way)) (some (.ref (R.length + 1))) (some (.lst (natsD row))) y8 none none none none (c + n + 1) (by omega) M3 q4
      have r3 := range1 kk (by omega)
      have m4 := mkL_true M4 (qs.map tieD) (by simp [sizeLine_eq]; omega)
      have g4 : M4[R.length + 1]? = some (.lst (ps.map tieD)) := by
        obtain ⟨cs, a, r, rfl, _⟩ := u3
        rw [List.getElem?_cons_succ, List.getElem?_append_right (Nat.le_refl _)]; simp
      have a4 : addD false (.ref (R.length + 1)) (.lst (qs.map tieD)) M4 = .ok (.ref M4.length) (M4 ++ [.lst ((ps ++ qs).map tieD)]) := by
        show (match getL M4 (.ref (R.length + 1)), getL M4 (.lst (qs.map tieD)) with
          | some a, some b => mkL false (a ++ b) M4
          | _, _ => .no) = _
        simp only [getL, g4]
        rw [← List.map_append, mkL_false _ _ (by simp [sizeLine_eq]; omega)]
      refine ⟨M4.length, ps ++ qs, [.lst (ps.map tieD)] ++ [.lst ((ps ++ qs).map tieD)], M4 ++ [.lst ((ps ++ qs).map tieD)], some (.lst (natsD row)), y8, q1.app fun t ht => hpo t (u1 t ht), by simp; omega, ?_, get_new _ _, (by have := u3.len; simp at this; omega), ?_⟩
      · have := (u3.app [.lst ((ps ++ qs).map tieD)]).mono (show c + n + 1 + 3 ≤ c + 80 by omega)
        rwa [List.append_assoc] at this
      · simp only [stWay, ev_sif, ev_tBl, ev_e2, ev_var, List.getElem?_cons_zero, List.getElem?_cons_succ, Rs.bind_ok, ev_C, ev_eqI, h0', decide_false, Bool.false_eq_true, if_false, Rs.stm_ok, ev_lt, h4', ev_seq, ev_asg, ev_call, ev_cons, ev_listR1, lr, ev_nil, List.length_cons, List.length_nil, if_true, e1, ev_gN, nxO_ok, List.set_cons_succ, List.set_cons_zero, ev_for, ev_aRng, t1, r2, ofO_some, e2', ev_lc, e3, r3, wipeD, e4, m4, a4, Nat.reduceAdd]
end
end Dl

set_option Elab.async false
set_option linter.all false
set_option autoImplicit false
set_option maxRecDepth 100000
set_option maxHeartbeats 4000000
/-! some web. -/
namespace Dl
noncomputable section
open PySem PySem.Spec L2
theorem Pn.set {c : Int} {M R N : Mem} {k : Nat} {o : Ob} (h : Pn c M (R ++ N)) (hk : R.length + 1 ≤ k) : ∃ N', Pn c (M.set k o) (R ++ N') := by
  obtain ⟨cs, a, r, rfl, h2⟩ := h
  obtain ⟨j, rfl⟩ : ∃ j, k = (R.length + j) + 1 := ⟨k - R.length - 1, by omega⟩
  refine ⟨N.set j o, cs, a, r, ?_, h2⟩
  rw [List.set_cons_succ, List.set_append_right _ _ (by omega)]
  congr 2
  rw [Nat.add_sub_cancel_left]
/-- the last lines -/
def stLoops : SS := (sIf (bAnd (tTru (eVar 2)) (tBl (e2 (eqD false) (eCall 2 F__law_draw (aCons (eVar 0) (aCons (eC (.int 2)) aNil))) (eC (.int 0))))) (sAsg (e2 (addD false) (eVar 6) (eLc true (aRng rng1 (aCons (eVar 1) aNil)) (gN 12) (tBl (e2 (eqD false) (eCall 2 F__law_draw (aCons (eVar 0) (aCons (eC (.int 4)) aNil))) (eC (.int 0)))) (eTup (aCons (eVar 12) (aCons (eVar 12) aNil))) [12])) (gN 6)) sNx)
theorem loops_ok {R N : Mem} {n k : Nat} {lp : Bool} (hn : n ≤ 10) {ps : List Tie} (hps : TOk n ps) (hpl : ps.length ≤ 45) (c : Int) (hc : c ≤ 100000) (M : Mem) (h : Pn c M (R ++ N)) (hk : R.length + 1 ≤ k) (g : M[k]? = some (.lst (ps.map tieD))) (x3 x4 x5 y7 y8 : Option D) :
    ∃ (k' : Nat) (qs : List Tie) (N' M' : Mem), TOl lp n qs ∧ qs.length ≤ 55 ∧ (lp = false → qs.length ≤ 45) ∧ R.length + 1 ≤ k' ∧ Pn (c + 11) M' (R ++ N') ∧ M'[k']? = some (.lst (qs.map tieD)) ∧
      stLoops [some (.ref 0), some (.int n), some (.bl lp), x3, x4, x5, some (.ref k), y7, y8, none, none, none, none, none] M =
        .nx [some (.ref 0), some (.int n), some (.bl lp), x3, x4, x5, some (.ref k'), y7, y8, none, none, none, none, none] M' := by
  cases lp with
  | false =>
    refine ⟨k, ps, N, M, hps.l, by omega, fun _ => hpl, hk, h.mono (by omega), g, ?_⟩
    simp only [stLoops, ev_sif, ev_bAnd, ev_tTru, truD, ofO_some, ev_var, List.getElem?_cons_zero, List.getElem?_cons_succ, Rs.bind_ok, Bool.false_eq_true, if_false, Rs.stm_ok, ev_nx]
  | true =>
  obtain ⟨d, M1, hd, p1, e1⟩ := drawP h (by omega) (many := 2) (by omega) (by omega)
  have e1' : F__law_draw [.ref 0, .int 2] M = .ok (.int d) M1 := e1
  have keep : ∀ {c' : Int} {M2 : Mem}, Pn c' M2 (R ++ N) → (∃ p p' : Ob, M = p :: (R ++ N) ∧ M2 = p' :: (R ++ N)) := fun q => by
    obtain ⟨cs, a, r, e, _⟩ := h
    obtain ⟨cs', a', r', e', _⟩ := q
    exact ⟨_, _, e, e'⟩
  have kp : ∀ {c' : Int} {M2 : Mem}, Pn c' M2 (R ++ N) → M2[k]? = some (.lst (ps.map tieD)) := fun q => by
    obtain ⟨p, p', e, e'⟩ := keep q
    obtain ⟨j, rfl⟩ : ∃ j, k = j + 1 := ⟨k - 1, by omega⟩
    rw [e, List.getElem?_cons_succ] at g
    rw [e', List.getElem?_cons_succ, g]
  by_cases h0 : (d : Int) = 0
  · obtain ⟨qs, M2, q1, q2, q3, e2'⟩ := loop_comp n hn (some (.int n)) (some (.bl true)) x3 x4 x5 (some (.ref k)) y7 y8 none none none none (c + 1) (by omega) M1 p1
    have r1 := range1 n (by omega)
    have m2 := mkL_true M2 (qs.map tieD) (by simp [sizeLine_eq]; omega)
    have a2 : addD false (.ref k) (.lst (qs.map tieD)) M2 = .ok (.ref M2.length) (M2 ++ [.lst ((ps ++ qs).map tieD)]) := by
      show (match getL M2 (.ref k), getL M2 (.lst (qs.map tieD)) with
        | some a, some b => mkL false (a ++ b) M2
        | _, _ => .no) = _
      simp only [getL, kp q3]
      rw [← List.map_append, mkL_false _ _ (by simp [sizeLine_eq]; omega)]
    refine ⟨M2.length, ps ++ qs, N ++ [.lst ((ps ++ qs).map tieD)], M2 ++ [.lst ((ps ++ qs).map tieD)], hps.l.app q1, by simp; omega, (fun z => nomatch z), by have := q3.len; simp at this; omega, ?_, get_new _ _, ?_⟩
    · have := (q3.app [.lst ((ps ++ qs).map tieD)]).mono (show c + 1 + 10 ≤ c + 11 by omega)
      rwa [List.append_assoc] at this
    · simp only [stLoops, ev_sif, ev_bAnd, ev_tTru, truD, ofO_some, ev_tBl, ev_e2, ev_var, List.getElem?_cons_zero, List.getElem?_cons_succ, Rs.bind_ok, ev_C, ev_call, ev_cons, ev_nil, List.length_cons, List.length_nil, if_true, e1', ev_eqI, h0, decide_true, Bool.false_eq_true, if_false, Rs.stm_ok, ev_asg, ev_lc, ev_aRng, r1, wipeD, List.set_cons_succ, List.set_cons_zero, e2', m2, a2, ev_gN, nxO_ok, Nat.reduceAdd]
  · refine ⟨k, ps, N, M1, hps.l, by omega, (fun _ => hpl), hk, p1.mono (by omega), kp p1, ?_⟩
    simp only [stLoops, ev_sif, ev_bAnd, ev_tTru, truD, ofO_some, ev_tBl, ev_e2, ev_var, List.getElem?_cons_zero, List.getElem?_cons_succ, Rs.bind_ok, ev_C, ev_call, ev_cons, ev_nil, List.length_cons, List.length_nil, if_true, e1', ev_eqI, h0, decide_false, Bool.false_eq_true, if_false, Rs.stm_ok, ev_nx, Nat.reduceAdd]
theorem some_web_def : B__law_some_web = (sSeq (sPar 5 6 (aCons (eCall 2 F__law_draw (aCons (eVar 0) (aCons (eC (.int 6)) aNil))) (aCons (eLst false aNil) aNil))) (sSeq (sAsg (eB sumLsD (aCons (eLc true (aRng rng1 (aCons (eVar 1) aNil)) (gN 9) tYes' (eLc true (aRng rng2 (aCons (e2 (addD true) (eVar 9) (eC (.int 1))) (aCons (eVar 1) aNil))) (gN 10) tYes' (eTup (aCons (eVar 9) (aCons (eVar 10) aNil))) [10]) [9]) (aCons (eLst true aNil) aNil))) (gN 3)) (sSeq (sAsg (e2 (addD true) (eC (.int 1)) (eCall 2 F__law_draw (aCons (eVar 0) (aCons (eC (.int 4)) aNil)))) (gN 4)) (sSeq stWay (sSeq stLoops (sRet (eCall 2 F__law_web (aCons (eVar 1) (aCons (eFz (eVar 6)) aNil))))))))) := rfl
theorem eq_some_web {c : Int} {M R : Mem} (h : Pn c M R) (hc : c ≤ 50000) {n : Nat} (lp : Bool) (hn : n ≤ 10) :
    ∃ (ts : List Tie) (M' : Mem), Web n ts ∧ (lp = false → ∀ t ∈ ts, t.1 < t.2) ∧ ts.length ≤ 55 ∧ (lp = false → ts.length ≤ 45) ∧ Pn (c + 100) M' R ∧ F__law_some_web [.ref 0, .int n, .bl lp] M = .ok (webD n ts) M' := by
  obtain ⟨way, M1, hw, p1, e1⟩ := drawP h (by omega) (many := 6) (by omega) (by omega)
  have e1' : F__law_draw [.ref 0, .int 6] M = .ok (.int way) M1 := e1
  have l1 : M1.length = R.length + 1 := p1.len
  have m1 : mkL false ([] : List D) M1 = .ok (.ref (R.length + 1)) (M1 ++ [.lst []]) := by rw [mkL_false _ _ (Nat.zero_le _), l1]
  have p2 := p1.app [.lst []]
  obtain ⟨d, M2, hd, p3, e3⟩ := drawP p2 (by omega) (many := 4) (by omega) (by omega)
  have e3' : F__law_draw [.ref 0, .int 4] (M1 ++ [.lst []]) = .ok (.int d) M2 := e3
  have sh : (1 : Int) + (d : Int) = ((1 + d : Nat) : Int) := by omega
  obtain ⟨k, ps, N, M3, y7, y8, o1, o2, p4, g4, hk, e4⟩ := way_ok (R := R) (n := n) (way := way) (sh := 1 + d) hn (c + 1 + 1) (by omega) M2 p3
  obtain ⟨k', qs, N', M4, o3, o4, o5, hk', p5, g5, e5⟩ := loops_ok hn o1 o2 (c + 1 + 1 + 80) (by omega) M3 p4 hk g4 (some (.lst ((prs n).flatten.map tieD))) (some (.int (1 + d : Nat))) (some (.int way)) y7 y8
  obtain ⟨N2, p6⟩ := p5.set (o := .dead) hk'
  have f5 : fzM (.ref k') M4 = .ok (.lst (qs.map tieD)) (M4.set k' .dead) := by
    simp only [fzM, g5]
  have w := eq_law_web (M := M4.set k' .dead) n qs (by omega)
  have pe := prs_eval (M := M1 ++ [.lst []]) hn (some (.ref 0)) (some (.bl lp)) none none (some (.int way)) (some (.ref (R.length + 1))) none none none none none none none
  refine ⟨mkT qs, dropM M (webD n (mkT qs)) (M4.set k' .dead), mkT_web fun t ht => ⟨(o3 t ht).1, (o3 t ht).2.1⟩, fun z t ht => (o3 t (mkT_mem.mp ht)).2.2 z, Nat.le_trans (mkT_len _) (by omega), (fun z => Nat.le_trans (mkT_len _) (o5 z)), (Pn.drop h p6 (bel_web _ _ _)).mono (by omega), ?_⟩
  · simp only [F__law_some_web, some_web_def, defF, startD, List.map_cons, List.map_nil, List.length_cons, List.length_nil, List.replicate, List.cons_append, List.nil_append, Nat.reduceAdd, Nat.reduceSub]
    rw [seq_nx _ _ _ [some (.ref 0), some (.int n), some (.bl lp), none, none, some (.int way), some (.ref (R.length + 1)), none, none, none, none, none, none, none] _ (M1 ++ [.lst []]) (by
      simp only [ev_par, ev_call, ev_cons, ev_var, List.getElem?_cons_zero, Rs.bind_ok, ev_C, ev_nil, List.length_cons, List.length_nil, Nat.reduceAdd, if_true, e1', ev_lst, m1, Rs.stm_ok, List.set_cons_succ, List.set_cons_zero])]
    rw [seq_nx _ _ _ [some (.ref 0), some (.int n), some (.bl lp), some (.lst ((prs n).flatten.map tieD)), none, some (.int way), some (.ref (R.length + 1)), none, none, none, none, none, none, none] _ (M1 ++ [.lst []]) (by
      rw [ev_asg, pe]
      simp only [Rs.stm_ok, ev_gN, nxO_ok, List.set_cons_succ, List.set_cons_zero])]
    rw [seq_nx _ _ _ [some (.ref 0), some (.int n), some (.bl lp), some (.lst ((prs n).flatten.map tieD)), some (.int (1 + d : Nat)), some (.int way), some (.ref (R.length + 1)), none, none, none, none, none, none, none] _ M2 (by
      simp only [ev_asg, ev_e2, ev_C, Rs.bind_ok, ev_call, ev_cons, ev_var, List.getElem?_cons_zero, ev_nil, List.length_cons, List.length_nil, Nat.reduceAdd, if_true, e3', ev_addI, sh, Rs.stm_ok, ev_gN, nxO_ok, List.set_cons_succ, List.set_cons_zero])]
    rw [seq_nx _ _ _ _ _ _ e4, seq_nx _ _ _ _ _ _ e5]
    simp only [ev_ret, ev_call, ev_cons, ev_var, List.getElem?_cons_zero, List.getElem?_cons_succ, Rs.bind_ok, ev_fz, f5, ev_nil, List.length_cons, List.length_nil, Nat.reduceAdd, if_true, w, Rs.stm_ok]
end
end Dl

set_option Elab.async false
set_option linter.all false
set_option autoImplicit false
set_option maxRecDepth 100000
set_option maxHeartbeats 4000000
/-! values of all kinds; colourings. -/
namespace Dl
noncomputable section
open PySem PySem.Spec L2
theorem compL_mapG {α : Type} {gm : GG} {tt : TT'} {el : EE} {δ : Loc} {M : Mem} (g f : α → D) : ∀ {l : List α} {acc : List D}, acc.length + l.length ≤ 1000000 →
    (∀ a ∈ l, ∃ δ1, gm (g a) δ M = .ok δ1 M ∧ tt δ1 M = .ok true M ∧ el δ1 M = .ok (f a) M) → compL gm tt el δ (l.map g) M acc = .ok (acc ++ l.map f) M
  | [], acc, _, _ => by simp [compL]
  | d :: items, acc, hl, h => by
    obtain ⟨δ1, e1, e2, e3⟩ := h d List.mem_cons_self
    rw [List.length_cons] at hl
    rw [List.map_cons, compL, e1, Rs.bindN_ok, e2, Rs.bindN_ok, if_pos rfl, e3, Rs.bindN_ok, if_pos (by have := sizeLine_eq; simp; omega), compL_mapG g f (by simp; omega) fun a ha => h a (List.mem_cons_of_mem _ ha)]
    simp
theorem compL_filterG {α : Type} {gm : GG} {tt : TT'} {el : EE} {δ : Loc} {M : Mem} (g f : α → D) (p : α → Bool) : ∀ {l : List α} {acc : List D}, acc.length + l.length ≤ 1000000 →
    (∀ a ∈ l, ∃ δ1, gm (g a) δ M = .ok δ1 M ∧ tt δ1 M = .ok (p a) M ∧ (p a = true → el δ1 M = .ok (f a) M)) → compL gm tt el δ (l.map g) M acc = .ok (acc ++ (l.filter p).map f) M
  | [], acc, _, _ => by simp [compL]
  | d :: items, acc, hl, h => by
    obtain ⟨δ1, e1, e2, e3⟩ := h d List.mem_cons_self
    rw [List.length_cons] at hl
    rw [List.map_cons, compL, e1, Rs.bindN_ok, e2, Rs.bindN_ok]
    cases hp : p d with
    | false =>
      rw [if_neg (by simp), compL_filterG g f p (by omega) fun a ha => h a (List.mem_cons_of_mem _ ha), List.filter_cons_of_neg (by simp [hp])]
    | true =>
      rw [if_pos rfl, e3 hp, Rs.bindN_ok, if_pos (by have := sizeLine_eq; simp; omega), compL_filterG g f p (by simp; omega) fun a ha => h a (List.mem_cons_of_mem _ ha), List.filter_cons_of_pos hp]
      simp
inductive Itm : D → Prop
  | nat (k : Nat) (h : k ≤ 20) : Itm (.int k)
  | non : Itm .non
  | tr : Itm (.bl true)
  | one : Itm (.tup [.int 0])
  | two (a b : Nat) (ha : a ≤ 9) (hb : b ≤ 9) : Itm (.tup [.int a, .int b])
  | lst : Itm (.lst [.int 0, .int 1])
  | neg : Itm (.int (-1))
  | str : Itm (.str "0")
theorem Itm.pl {d : D} (h : Itm d) : Pl d 1 5 := by
  cases h with
  | nat k h => exact .nat (by omega)
  | non => exact .non
  | tr => exact .bl
  | one => exact .tup ((PlA.cons (w1 := 0) (w2 := 0) (.int (by decide)) .nil).mono (Nat.le_refl _) (by omega))
  | two a b ha hb => exact .tup ((PlA.cons (w1 := 0) (.nat (by omega)) (PlA.cons (w1 := 0) (w2 := 0) (.nat (by omega)) .nil)).mono (Nat.le_refl _) (by omega))
  | lst => exact .lst ((PlA.cons (w1 := 0) (.int (by decide)) (PlA.cons (w1 := 0) (w2 := 0) (.int (by decide)) .nil)).mono (Nat.le_refl _) (by omega))
  | neg => exact .int (by decide)
  | str => exact .str (by decide +kernel) (by decide +kernel) (by decide +kernel)
def cnt : D → Bool
  | .int i => decide (0 ≤ i)
  | _ => false
section
variable (M : Mem)
theorem eq_whole_itm {d : D} (h : Itm d) : F_is_whole [d] M = .ok (.bl (match d with | .int _ => true | _ => false)) M := by
  cases h <;> simp [F_is_whole, B_is_whole, defF, startD, tyD, tyAsked, isiB, dropM_same]
theorem eq_count_itm {d : D} (h : Itm d) : F_is_count [d] M = .ok (.bl (cnt d)) M := by
  have e := eq_whole_itm M h
  cases h <;> simp [F_is_count, B_is_count, defF, startD, e, dropM_same, cnt]
theorem eq_place_itm {d : D} (n : Nat) (h : Itm d) : F_is_place [.int n, d] M = .ok (.bl (match d with | .int i => decide (0 ≤ i) && decide (i < n) | _ => false)) M := by
  have e := eq_count_itm M h
  cases h <;> simp [F_is_place, B_is_place, defF, startD, e, dropM_same, cnt]
end
/-- values: None, lists and tuples of such items -/
inductive Vl : D → Prop
  | non : Vl .non
  | lst (xs : List D) (h : ∀ x ∈ xs, Itm x) (hl : xs.length ≤ 100) : Vl (.lst xs)
  | tup (xs : List D) (h : ∀ x ∈ xs, Itm x) (hl : xs.length ≤ 100) : Vl (.tup xs)
theorem Itm.pls {xs : List D} (h : ∀ x ∈ xs, Itm x) (hl : xs.length ≤ 100) : PlA xs 1 600 :=
  (PlA.of fun d hd => (h d hd).pl).mono (Nat.le_refl _) (by omega)
theorem Vl.pl {v : D} (h : Vl v) : Pl v 2 600 := by
  cases h with
  | non => exact .non
  | lst xs h hl => exact .lst (Itm.pls h hl)
  | tup xs h hl => exact .tup (Itm.pls h hl)
theorem nats_of : ∀ {xs : List D}, xs.all cnt = true → ∃ ns : List Nat, xs = natsD ns
  | [], _ => ⟨[], rfl⟩
  | x :: xs, h => by
    rw [List.all_cons, Bool.and_eq_true] at h
    obtain ⟨ns, rfl⟩ := nats_of h.2
    cases x with
    | int i =>
      have hi : 0 ≤ i := of_decide_eq_true h.1
      refine ⟨i.toNat :: ns, ?_⟩
      show _ = D.int ((i.toNat : Nat) : Int) :: natsD ns
      rw [Int.toNat_of_nonneg hi]
    | _ => exact absurd h.1 (by simp [cnt])
end
end Dl

set_option Elab.async false
set_option linter.all false
set_option autoImplicit false
set_option maxRecDepth 100000
set_option maxHeartbeats 4000000
/-! colourings and the directions they give. -/
namespace Dl
noncomputable section
open PySem PySem.Spec L2
structure BWeb (n : Nat) (ts : List Tie) : Prop where
  w : Web n ts
  b : ∀ t ∈ ts, t.1 < t.2
  hn : n ≤ 10
  hl : ts.length ≤ 200
section
variable (M : Mem)
theorem eq_need_hue_web {n : Nat} {ts : List Tie} (w : BWeb n ts) : F_need_hue_web [webD n ts] M = .ok .non M := by
  have e1 := eq_need_web M w.w (by have := w.hl; omega)
  obtain ⟨δ', M', e, y1, y2, rfl, hM⟩ := forL_inv (gm := gTupD (gsCons (gN 1) (gsCons (gN 2) gsNil))) (body := B_need_hue_web_for1) (items := ts.map tieD) (δ := [some (webD n ts), none, none]) (M := M)
    (fun i δ M' => ∃ y1 y2 : Option D, δ = [some (webD n ts), y1, y2] ∧ M' = M) ⟨_, _, rfl, rfl⟩ (fun i d δ M' hd ⟨y1, y2, h1, h2⟩ => by
      subst h1 h2
      obtain ⟨t, ht, rfl⟩ := List.mem_map.mp (List.mem_of_getElem? hd)
      have hb := w.b t ht
      have hne : ¬ ((t.1 : Int) = t.2) := by omega
      refine ⟨_, _, [some (webD n ts), some (.int t.1), some (.int t.2)], M', rfl, ?_, _, _, rfl, rfl⟩
      simp only [List.set_cons_succ, List.set_cons_zero, B_need_hue_web_for1, ev_sif, ev_tBl, ev_e2, ev_var, List.getElem?_cons_zero, List.getElem?_cons_succ, Rs.bind_ok, ev_eqI, Bool.false_eq_true, if_false, hne, decide_false, Rs.stm_ok, ev_nx])
  rw [hM] at e
  have hi : ixD (webD n ts) (.int 1) M = .ok (.tup (ts.map tieD)) M := by
    show ofO (L2.atI [D.int n, .tup (ts.map tieD)] 1) M = _
    rw [atI1]; rfl
  have hs : startD 3 [webD n ts] = [some (webD n ts), none, none] := rfl
  unfold F_need_hue_web defF
  rw [hs]
  simp only [B_need_hue_web, ev_seq, ev_expr, ev_call, ev_cons, ev_var, List.getElem?_cons_zero, Rs.bind_ok, ev_nil, List.length_cons, List.length_nil, Nat.reduceAdd, if_true, e1, Rs.stm_ok, ev_for, ev_aOf, ev_e2, ev_C, hi, itT, ofO_some, e, dropM_same]
/-- the two colours of a tie differ -/
def dif (ns : List Nat) (t : Tie) : Bool := decide (ns.getD t.1 0 ≠ ns.getD t.2 0)
def huesN (ts : List Tie) (ns : List Nat) : Bool := ts.all (dif ns)
theorem ix_nats (ns : List Nat) (i : Nat) (h : i < ns.length) : ixD (.tup (natsD ns)) (.int i) M = .ok (.int (ns.getD i 0 : Nat)) M := by
  rw [ev_ixT, atI_nat]
  simp [natsD, h]
theorem webD_def (n : Nat) (ts : List Tie) : webD n ts = .tup [.int n, .tup (ts.map tieD)] := rfl
theorem ix_web0 (n : Nat) (ts : List Tie) : ixD (webD n ts) (.int 0) M = .ok (.int n) M := by
  show ofO (L2.atI [D.int n, .tup (ts.map tieD)] 0) M = _
  rw [atI0]; rfl
theorem ix_web1 (n : Nat) (ts : List Tie) : ixD (webD n ts) (.int 1) M = .ok (.tup (ts.map tieD)) M := by
  show ofO (L2.atI [D.int n, .tup (ts.map tieD)] 1) M = _
  rw [atI1]; rfl
theorem ix_tie0 (t : Tie) : ixD (tieD t) (.int 0) M = .ok (.int t.1) M := by
  show ofO (L2.atI [D.int t.1, .int t.2] 0) M = _
  rw [atI0]; rfl
theorem ix_tie1 (t : Tie) : ixD (tieD t) (.int 1) M = .ok (.int t.2) M := by
  show ofO (L2.atI [D.int t.1, .int t.2] 1) M = _
  rw [atI1]; rfl
theorem isi_tup (ds : List D) : isiD [.tup ds, .ty "tuple"] M = .ok (.bl true) M := by simp [tyD, tyAsked, isiB]
theorem isi_lst (ds : List D) : isiD [.lst ds, .ty "tuple"] M = .ok (.bl false) M := by simp [tyD, tyAsked, isiB]
theorem isi_non : isiD [.non, .ty "tuple"] M = .ok (.bl false) M := by simp [tyD, tyAsked, isiB]
theorem len_dec (a b : Nat) : decide ((a : Int) = (b : Int)) = decide (a = b) := by
  by_cases h : a = b
  · subst h; simp
  · have : ¬ ((a : Int) = b) := by omega
    simp [h, this]
/-- what is_hues answers -/
def huesB (n : Nat) (ts : List Tie) (v : D) (b : Bool) : Prop := (∃ ns : List Nat, v = .tup (natsD ns) ∧ ns.length = n ∧ b = huesN ts ns) ∨ b = false
theorem are_hues_tup {n : Nat} {ts : List Tie} (w : BWeb n ts) {xs : List D} (h : ∀ x ∈ xs, Itm x) (hl : xs.length ≤ 100) :
    ∃ b, F_are_hues_in [webD n ts, .tup xs] M = .ok (.bl b) M ∧ F__law_are_hues [webD n ts, .tup xs] M = .ok (.bl b) M ∧ huesB n ts (.tup xs) b := by
  have hs5 : startD 5 [webD n ts, .tup xs] = [some (webD n ts), some (.tup xs), none, none, none] := rfl
  have hs4 : startD 4 [webD n ts, .tup xs] = [some (webD n ts), some (.tup xs), none, none] := rfl
  by_cases hn : xs.length = n
  · have hn' : decide ((xs.length : Int) = (n : Int)) = true := by rw [len_dec]; simp [hn]
    have c1 : compL (gN 4) tYes' (eCall 1 F_is_count (aCons (eVar 4) aNil)) [some (webD n ts), some (.tup xs), none, none, none] xs M [] = .ok (xs.map fun x => .bl (cnt x)) M := by
      have := compL_mapG (M := M) (gm := gN 4) (tt := tYes') (el := eCall 1 F_is_count (aCons (eVar 4) aNil)) (δ := [some (webD n ts), some (.tup xs), none, none, none]) (fun x => x) (fun x => .bl (cnt x)) (l := xs) (acc := []) (by simp; omega) (fun x hx => ⟨_, rfl, rfl, by
        simp only [ev_call, ev_cons, ev_var, List.set_cons_succ, List.set_cons_zero, List.getElem?_cons_zero, List.getElem?_cons_succ, Rs.bind_ok, ev_nil, List.length_cons, List.length_nil, Nat.reduceAdd, if_true, eq_count_itm M (h x hx)]⟩)
      rw [List.map_id'] at this
      rw [this, List.nil_append]
    have m1 := mkL_true M (xs.map fun x => D.bl (cnt x)) (by simp [sizeLine_eq]; omega)
    have a1 := all_mapB M cnt xs
    have c2 : compL (gN 2) (bOr (bNot (tTru (eB isiD (aCons (eVar 2) (aCons (eC (.ty "int")) aNil))))) (bOr (tTru (eB isiD (aCons (eVar 2) (aCons (eC (.ty "bool")) aNil)))) (tBl (e2 ltD (eVar 2) (eC (.int 0)))))) (eVar 2) [some (webD n ts), some (.tup xs), none, none] xs M [] = .ok (xs.filter fun x => !cnt x) M := by
      have := compL_filterG (M := M) (gm := gN 2) (tt := bOr (bNot (tTru (eB isiD (aCons (eVar 2) (aCons (eC (.ty "int")) aNil))))) (bOr (tTru (eB isiD (aCons (eVar 2) (aCons (eC (.ty "bool")) aNil)))) (tBl (e2 ltD (eVar 2) (eC (.int 0)))))) (el := eVar 2) (δ := [some (webD n ts), some (.tup xs), none, none]) (fun x => x) (fun x => x) (fun x => !cnt x) (l := xs) (acc := []) (by simp; omega) (fun x hx => ⟨_, rfl, by
          cases h x hx <;> simp [tyD, tyAsked, isiB, truD, cnt], fun _ => rfl⟩)
      rw [List.map_id', List.map_id'] at this
      rw [this, List.nil_append]
    have m2 := mkL_true M (xs.filter fun x => !cnt x) (by have := List.length_filter_le (fun x => !cnt x) xs; simp [sizeLine_eq]; omega)
    have n2 := ev_neNilP (Itm.pls (xs := xs.filter fun x => !cnt x) (fun x hx => h x (List.mem_filter.mp hx).1) (by have := List.length_filter_le (fun x => !cnt x) xs; omega)) (by omega) M true
    simp only [if_true] at n2
    have m0 : mkL true ([] : List D) M = .ok (.lst []) M := mkL_true _ _ (Nat.zero_le _)
    cases ha : xs.all cnt with
    | false =>
      have he : (xs.filter fun x => !cnt x).isEmpty = false := by
        cases hf : xs.filter fun x => !cnt x with
        | nil =>
          exfalso
          rw [List.filter_eq_nil_iff] at hf
          have : xs.all cnt = true := List.all_eq_true.mpr fun x hx => by simpa using hf x hx
          rw [ha] at this; cases this
        | cons _ _ => rfl
      rw [ha] at a1
      rw [he] at n2
      refine ⟨false, ?_, ?_, .inr rfl⟩
      · unfold F_are_hues_in defF
        rw [hs5]
        simp only [B_are_hues_in, ev_seq, ev_sif, ev_bOr, ev_bNot, ev_tTru, ev_B, ev_cons, ev_var, ev_C, List.getElem?_cons_zero, List.getElem?_cons_succ, Rs.bind_ok, ev_nil, isi_tup, tru_bl, ofO_some, Bool.not_true, Bool.false_eq_true, if_false, ev_tBl, ev_e2, ev_lenT, ix_web0, ev_eqI, hn', if_true, ev_lc, ev_aOf, itT, wipeD, List.set_cons_succ, List.set_cons_zero, c1, m1, a1, Bool.not_false, Rs.stm_ok, ev_ret, dropM_same]
      · unfold F__law_are_hues defF
        rw [hs4]
        simp only [B__law_are_hues, ev_seq, ev_sif, ev_bOr, ev_bNot, ev_tTru, ev_B, ev_cons, ev_var, ev_C, List.getElem?_cons_zero, List.getElem?_cons_succ, Rs.bind_ok, ev_nil, isi_tup, tru_bl, ofO_some, Bool.not_true, Bool.false_eq_true, if_false, ev_tBl, ev_e2, ev_lenT, ix_web0, ev_eqI, hn', if_true, ev_lc, ev_aOf, itT, wipeD, List.set_cons_succ, List.set_cons_zero, c2, m2, ev_lst, m0, n2, Bool.not_false, Rs.stm_ok, ev_ret, dropM_same, ev_nx]
    | true =>
      obtain ⟨ns, rfl⟩ := nats_of ha
      have hnl : ns.length = n := by rw [← hn]; simp [natsD]
      have he : ((natsD ns).filter fun x => !cnt x).isEmpty = true := by
        rw [List.isEmpty_iff, List.filter_eq_nil_iff]
        intro x hx
        simpa using List.all_eq_true.mp ha x hx
      rw [ha] at a1
      rw [he] at n2
      have g1 : ∀ t ∈ ts, ixD (.tup (natsD ns)) (.int t.1) M = .ok (.int (ns.getD t.1 0 : Nat)) M := fun t ht => ix_nats M ns _ (by have := w.w.ok t ht; omega)
      have g2 : ∀ t ∈ ts, ixD (.tup (natsD ns)) (.int t.2) M = .ok (.int (ns.getD t.2 0 : Nat)) M := fun t ht => ix_nats M ns _ (by have := w.w.ok t ht; omega)
      have c3 : compL (gTupD (gsCons (gN 2) (gsCons (gN 3) gsNil))) tYes' (e2 (eqD true) (e2 ixD (eVar 1) (eVar 2)) (e2 ixD (eVar 1) (eVar 3))) [some (webD n ts), some (.tup (natsD ns)), none, none, none] (ts.map tieD) M [] = .ok (ts.map fun t => .bl (dif ns t)) M := by
        have := compL_mapG (M := M) (gm := gTupD (gsCons (gN 2) (gsCons (gN 3) gsNil))) (tt := tYes') (el := e2 (eqD true) (e2 ixD (eVar 1) (eVar 2)) (e2 ixD (eVar 1) (eVar 3))) (δ := [some (webD n ts), some (.tup (natsD ns)), none, none, none]) tieD (fun t => .bl (dif ns t)) (l := ts) (acc := []) (by simp; have := w.hl; omega) (fun t ht => ⟨_, rfl, rfl, by
          simp only [ev_e2, ev_var, List.set_cons_succ, List.set_cons_zero, List.getElem?_cons_zero, List.getElem?_cons_succ, Rs.bind_ok, g1 t ht, g2 t ht, ev_eqI, if_true, len_dec, dif, decide_not]⟩)
        rw [this, List.nil_append]
      have m3 := mkL_true M (ts.map fun t => D.bl (dif ns t)) (by have := w.hl; simp [sizeLine_eq]; omega)
      have a3 := all_mapB M (dif ns) ts
      have c4 : compL (gN 3) (tBl (e2 (eqD false) (e2 ixD (eVar 1) (e2 ixD (eVar 3) (eC (.int 0)))) (e2 ixD (eVar 1) (e2 ixD (eVar 3) (eC (.int 1)))))) (eVar 3) [some (webD n ts), some (.tup (natsD ns)), none, none] (ts.map tieD) M [] = .ok ((ts.filter fun t => !dif ns t).map tieD) M := by
        have := compL_filterG (M := M) (gm := gN 3) (tt := tBl (e2 (eqD false) (e2 ixD (eVar 1) (e2 ixD (eVar 3) (eC (.int 0)))) (e2 ixD (eVar 1) (e2 ixD (eVar 3) (eC (.int 1)))))) (el := eVar 3) (δ := [some (webD n ts), some (.tup (natsD ns)), none, none]) tieD tieD (fun t => !dif ns t) (l := ts) (acc := []) (by simp; have := w.hl; omega) (fun t ht => ⟨_, rfl, by
          simp only [ev_tBl, ev_e2, ev_var, ev_C, List.set_cons_succ, List.set_cons_zero, List.getElem?_cons_zero, List.getElem?_cons_succ, Rs.bind_ok, ix_tie0, ix_tie1, g1 t ht, g2 t ht, ev_eqI, Bool.false_eq_true, if_false, len_dec, dif, decide_not, Bool.not_not], fun _ => rfl⟩)
        rw [this, List.nil_append]
      have m4 := mkL_true M ((ts.filter fun t => !dif ns t).map tieD) (by have := List.length_filter_le (fun t => !dif ns t) ts; have := w.hl; simp [sizeLine_eq]; omega)
      have n4 := ev_neNilT M false (ts.filter fun t => !dif ns t)
      simp only [Bool.false_eq_true, if_false] at n4
      have he2 : (ts.filter fun t => !dif ns t).isEmpty = ts.all (dif ns) := by
        cases hq : ts.all (dif ns) with
        | true =>
          rw [List.isEmpty_iff, List.filter_eq_nil_iff]
          intro x hx
          simpa using List.all_eq_true.mp hq x hx
        | false =>
          cases hf : ts.filter fun t => !dif ns t with
          | nil =>
            exfalso
            rw [List.filter_eq_nil_iff] at hf
            have : ts.all (dif ns) = true := List.all_eq_true.mpr fun x hx => by simpa using hf x hx
            rw [hq] at this; cases this
          | cons _ _ => rfl
      rw [he2] at n4
      refine ⟨huesN ts ns, ?_, ?_, .inl ⟨ns, rfl, hnl, rfl⟩⟩
      · unfold F_are_hues_in defF
        rw [hs5]
        simp only [B_are_hues_in, ev_seq, ev_sif, ev_bOr, ev_bNot, ev_tTru, ev_B, ev_cons, ev_var, ev_C, List.getElem?_cons_zero, List.getElem?_cons_succ, Rs.bind_ok, ev_nil, isi_tup, tru_bl, ofO_some, Bool.not_true, Bool.false_eq_true, if_false, ev_tBl, ev_e2, ev_lenT, ix_web0, ix_web1, ev_eqI, hn', if_true, ev_lc, ev_aOf, itT, wipeD, List.set_cons_succ, List.set_cons_zero, c1, m1, a1, Bool.not_false, Rs.stm_ok, ev_ret, dropM_same, ev_nx, c3, m3, a3, huesN]
      · unfold F__law_are_hues defF
        rw [hs4]
        simp only [B__law_are_hues, ev_seq, ev_sif, ev_bOr, ev_bNot, ev_tTru, ev_B, ev_cons, ev_var, ev_C, List.getElem?_cons_zero, List.getElem?_cons_succ, Rs.bind_ok, ev_nil, isi_tup, tru_bl, ofO_some, Bool.not_true, Bool.false_eq_true, if_false, ev_tBl, ev_e2, ev_lenT, ix_web0, ix_web1, ev_eqI, hn', if_true, ev_lc, ev_aOf, itT, wipeD, List.set_cons_succ, List.set_cons_zero, c2, m2, ev_lst, m0, n2, Bool.not_false, Rs.stm_ok, ev_ret, dropM_same, ev_nx, c4, m4, n4, huesN]
  · have hn' : decide ((xs.length : Int) = (n : Int)) = false := by rw [len_dec]; simp [hn]
    refine ⟨false, ?_, ?_, .inr rfl⟩
    · unfold F_are_hues_in defF
      rw [hs5]
      simp only [B_are_hues_in, ev_seq, ev_sif, ev_bOr, ev_bNot, ev_tTru, ev_B, ev_cons, ev_var, ev_C, List.getElem?_cons_zero, List.getElem?_cons_succ, Rs.bind_ok, ev_nil, isi_tup, tru_bl, ofO_some, Bool.not_true, Bool.false_eq_true, if_false, ev_tBl, ev_e2, ev_lenT, ix_web0, ev_eqI, hn', if_true, Bool.not_false, Rs.stm_ok, ev_ret, dropM_same]
    · unfold F__law_are_hues defF
      rw [hs4]
      simp only [B__law_are_hues, ev_seq, ev_sif, ev_bOr, ev_bNot, ev_tTru, ev_B, ev_cons, ev_var, ev_C, List.getElem?_cons_zero, List.getElem?_cons_succ, Rs.bind_ok, ev_nil, isi_tup, tru_bl, ofO_some, Bool.not_true, Bool.false_eq_true, if_false, ev_tBl, ev_e2, ev_lenT, ix_web0, ev_eqI, hn', if_true, Bool.not_false, Rs.stm_ok, ev_ret, dropM_same]
theorem are_hues_val {n : Nat} {ts : List Tie} (w : BWeb n ts) {v : D} (h : Vl v) :
    ∃ b, F_are_hues_in [webD n ts, v] M = .ok (.bl b) M ∧ F__law_are_hues [webD n ts, v] M = .ok (.bl b) M ∧ huesB n ts v b := by
  cases h with
  | tup xs h hl => exact are_hues_tup M w h hl
  | non => exact ⟨false, by simp [F_are_hues_in, B_are_hues_in, defF, startD, isi_non, dropM_same, -ev_isi], by simp [F__law_are_hues, B__law_are_hues, defF, startD, isi_non, dropM_same, -ev_isi], .inr rfl⟩
  | lst xs h hl => exact ⟨false, by simp [F_are_hues_in, B_are_hues_in, defF, startD, isi_lst, dropM_same, -ev_isi], by simp [F__law_are_hues, B__law_are_hues, defF, startD, isi_lst, dropM_same, -ev_isi], .inr rfl⟩
theorem eq_are_hues {n : Nat} {ts : List Tie} (w : BWeb n ts) {v : D} {b : Bool} (h : F_are_hues_in [webD n ts, v] M = .ok (.bl b) M) : F_are_hues [webD n ts, v] M = .ok (.bl b) M := by
  have e1 := eq_need_hue_web M w
  have hs : startD 2 [webD n ts, v] = [some (webD n ts), some v] := rfl
  unfold F_are_hues defF
  rw [hs]
  simp only [B_are_hues, ev_seq, ev_expr, ev_call, ev_cons, ev_var, List.getElem?_cons_zero, List.getElem?_cons_succ, Rs.bind_ok, ev_nil, List.length_cons, List.length_nil, Nat.reduceAdd, if_true, e1, Rs.stm_ok, ev_ret, h, dropM_same]
end
end
end Dl

set_option Elab.async false
set_option linter.all false
set_option autoImplicit false
set_option maxRecDepth 100000
set_option maxHeartbeats 4000000
/-! the direction by colours; what is met; the first inner loop. -/
namespace Dl
noncomputable section
open PySem PySem.Spec L2
def turnT (ns : List Nat) (t : Tie) : Tie := if ns.getD t.1 0 < ns.getD t.2 0 then t else (t.2, t.1)
section
variable (M : Mem)
theorem lt_nat (a b : Nat) : decide ((a : Int) < (b : Int)) = decide (a < b) := by
  by_cases h : a < b
  · have : ((a : Int) < b) := by omega
    simp [h, this]
  · have : ¬ ((a : Int) < b) := by omega
    simp [h, this]
theorem eq_hued_direction {n : Nat} {ts : List Tie} (w : BWeb n ts) {ns : List Nat} (hl : ns.length = n) : F_hued_direction [webD n ts, .tup (natsD ns)] M = .ok (.tup (ts.map fun t => tieD (turnT ns t))) M := by
  have g1 : ∀ t ∈ ts, ixD (.tup (natsD ns)) (.int t.1) M = .ok (.int (ns.getD t.1 0 : Nat)) M := fun t ht => ix_nats M ns _ (by have := w.w.ok t ht; omega)
  have g2 : ∀ t ∈ ts, ixD (.tup (natsD ns)) (.int t.2) M = .ok (.int (ns.getD t.2 0 : Nat)) M := fun t ht => ix_nats M ns _ (by have := w.w.ok t ht; omega)
  have c : compL (gTupD (gsCons (gN 2) (gsCons (gN 3) gsNil))) tYes' (eIf (tBl (e2 ltD (e2 ixD (eVar 1) (eVar 2)) (e2 ixD (eVar 1) (eVar 3)))) (eTup (aCons (eVar 2) (aCons (eVar 3) aNil))) (eTup (aCons (eVar 3) (aCons (eVar 2) aNil)))) [some (webD n ts), some (.tup (natsD ns)), none, none] (ts.map tieD) M [] = .ok (ts.map fun t => tieD (turnT ns t)) M := by
    have := compL_mapG (M := M) (gm := gTupD (gsCons (gN 2) (gsCons (gN 3) gsNil))) (tt := tYes') (el := eIf (tBl (e2 ltD (e2 ixD (eVar 1) (eVar 2)) (e2 ixD (eVar 1) (eVar 3)))) (eTup (aCons (eVar 2) (aCons (eVar 3) aNil))) (eTup (aCons (eVar 3) (aCons (eVar 2) aNil)))) (δ := [some (webD n ts), some (.tup (natsD ns)), none, none]) tieD (fun t => tieD (turnT ns t)) (l := ts) (acc := []) (by simp; have := w.hl; omega) (fun t ht => by
      refine ⟨[some (webD n ts), some (.tup (natsD ns)), some (.int t.1), some (.int t.2)], rfl, rfl, ?_⟩
      by_cases h : ns.getD t.1 0 < ns.getD t.2 0
      · simp only [ev_if, ev_tBl, ev_e2, ev_var, List.getElem?_cons_zero, List.getElem?_cons_succ, Rs.bind_ok, g1 t ht, g2 t ht, ev_lt, lt_nat, h, decide_true, if_true, ev_tup, ev_cons, ev_nil, List.length_cons, List.length_nil, sz_of (show 0 + 1 + 1 ≤ 1000000 by omega), turnT, tieD]
      · simp only [ev_if, ev_tBl, ev_e2, ev_var, List.getElem?_cons_zero, List.getElem?_cons_succ, Rs.bind_ok, g1 t ht, g2 t ht, ev_lt, lt_nat, h, decide_false, Bool.false_eq_true, if_false, if_true, ev_tup, ev_cons, ev_nil, List.length_cons, List.length_nil, sz_of (show 0 + 1 + 1 ≤ 1000000 by omega), turnT, tieD])
    rw [this, List.nil_append]
  have m := mkL_true M (ts.map fun t => tieD (turnT ns t)) (by have := w.hl; simp [sizeLine_eq]; omega)
  have hs : startD 4 [webD n ts, .tup (natsD ns)] = [some (webD n ts), some (.tup (natsD ns)), none, none] := rfl
  unfold F_hued_direction defF
  rw [hs]
  simp only [B_hued_direction, ev_ret, ev_B, ev_cons, ev_lc, ev_aOf, ev_e2, ev_var, ev_C, List.getElem?_cons_zero, List.getElem?_cons_succ, Rs.bind_ok, ix_web1, itT, ofO_some, wipeD, List.set_cons_succ, List.set_cons_zero, c, m, ev_nil, ev_tupL, Rs.stm_ok, dropM_same]
theorem eq_direction_no {n : Nat} {ts : List Tie} (w : BWeb n ts) {v : D} (h : F_are_hues_in [webD n ts, v] M = .ok (.bl false) M) :
    F_direction_by [webD n ts, v] M = .ex ⟨3, [("row", v)]⟩ M := by
  have e1 := eq_need_hue_web M w
  have hs : startD 2 [webD n ts, v] = [some (webD n ts), some v] := rfl
  unfold F_direction_by defF
  rw [hs]
  simp only [B_direction_by, ev_seq, ev_expr, ev_call, ev_cons, ev_var, List.getElem?_cons_zero, List.getElem?_cons_succ, Rs.bind_ok, ev_nil, List.length_cons, List.length_nil, Nat.reduceAdd, if_true, e1, Rs.stm_ok, ev_ret, ev_sif, ev_bNot, ev_tTru, h, tru_bl, ofO_some, Bool.not_false, Bool.false_eq_true, if_false, ev_nx, sRaise, List.zip_cons_cons, List.zip_nil_right, List.reverse_cons, List.reverse_nil, List.nil_append]
theorem eq_direction_yes {n : Nat} {ts : List Tie} (w : BWeb n ts) {v d : D} (h : F_are_hues_in [webD n ts, v] M = .ok (.bl true) M) (hd : F_hued_direction [webD n ts, v] M = .ok d M) :
    F_direction_by [webD n ts, v] M = .ok d M := by
  have e1 := eq_need_hue_web M w
  have hs : startD 2 [webD n ts, v] = [some (webD n ts), some v] := rfl
  unfold F_direction_by defF
  rw [hs]
  simp only [B_direction_by, ev_seq, ev_expr, ev_call, ev_cons, ev_var, List.getElem?_cons_zero, List.getElem?_cons_succ, Rs.bind_ok, ev_nil, List.length_cons, List.length_nil, Nat.reduceAdd, if_true, e1, Rs.stm_ok, ev_ret, ev_sif, ev_bNot, ev_tTru, h, tru_bl, ofO_some, Bool.not_true, Bool.false_eq_true, if_false, ev_nx, hd, dropM_same]
theorem hF_one {c : Nat} {f : Str} {d : D} : hF c f ⟨c, [(f, d)]⟩ M = .ok d M := by
  unfold hF
  rw [if_pos rfl, List.lookup_cons_self]
theorem met_ok (d : D) : metR sub0 H__law_met (.ok d M) = .ok d M := rfl
theorem met_row (v : D) : metR sub0 H__law_met (.ex ⟨3, [("row", v)]⟩ M) = .ok (.tup [.str "BadRow", v]) M := by
  simp only [metR, H__law_met, findH, sub0, hTup, hCons, hC, hNil, hF_one]
  simp [sz_of, noX]
theorem met_web (v : D) : metR sub0 H__law_met (.ex ⟨2, [("web", v)]⟩ M) = .ok (.tup [.str "BadWeb", v]) M := by
  simp only [metR, H__law_met, findH, sub0, hTup, hCons, hC, hNil, hF_one]
  simp [sz_of, noX]
theorem met_kept (u v : D) : metR sub0 H__law_met (.ex ⟨4, [("witness", v), ("promise", u)]⟩ M) = .ok (.tup [.str "NotKept", u, v]) M := by
  have h1 : hF 4 "promise" ⟨4, [("witness", v), ("promise", u)]⟩ M = .ok u M := by
    unfold hF
    rw [if_pos rfl]
    rfl
  have h2 : hF 4 "witness" ⟨4, [("witness", v), ("promise", u)]⟩ M = .ok v M := by
    unfold hF
    rw [if_pos rfl, List.lookup_cons_self]
  simp only [metR, H__law_met, findH, sub0, hTup, hCons, hC, hNil, h1, h2]
  simp [sz_of, noX]
@[simp] theorem ev_met (m : EE) (δ : Loc) : eMet sub0 H__law_met m δ M = metR sub0 H__law_met (m δ M) := rfl
/-! the first inner loop -/
theorem pl_ties {ts : List Tie} (f : Tie → Tie) (h : ∀ t ∈ ts, (f t).1 ≤ 1000 ∧ (f t).2 ≤ 1000) (hl : ts.length ≤ 1000) : PlA (ts.map fun t => tieD (f t)) 1 3000 :=
  (PlA.of (k := 1) (w := 2) fun d hd => by
    obtain ⟨t, ht, rfl⟩ := List.mem_map.mp hd
    have := h t ht
    exact .tup ((PlA.cons (w1 := 0) (.nat (by omega)) (PlA.cons (w1 := 0) (w2 := 0) (.nat (by omega)) .nil)).mono (Nat.le_refl _) (by omega))).mono (Nat.le_refl _) (by simp; omega)
theorem pl_row {v : D} (h : Vl v) : Pl (.tup [.str "BadRow", v]) 3 700 :=
  .tup ((PlA.cons (w1 := 10) (.str (by decide +kernel) (by decide +kernel) (by decide +kernel)) (PlA.cons (w2 := 0) (h.pl) .nil)).mono (by omega) (by omega))
theorem turnT_ok {n : Nat} {ts : List Tie} (w : BWeb n ts) (ns : List Nat) : ∀ t ∈ ts, (turnT ns t).1 ≤ 1000 ∧ (turnT ns t).2 ≤ 1000 := fun t ht => by
  have h1 := w.w.ok t ht
  have h2 := w.hn
  unfold turnT
  split
  · omega
  · show t.2 ≤ 1000 ∧ t.1 ≤ 1000
    omega
theorem for1_ok {n : Nat} {ts : List Tie} (w : BWeb n ts) {v : D} (hv : Vl v) (x0 x1 x2 x4 x5 x7 x8 x9 x10 x11 x12 x13 x14 x15 x16 x17 x18 x19 : Option D) :
    ∃ (y13 y14 : Option D), B_law_for1 [x0, x1, x2, some (webD n ts), x4, x5, some v, x7, x8, x9, x10, x11, x12, x13, x14, x15, x16, x17, x18, x19] M =
      .nx [x0, x1, x2, some (webD n ts), x4, x5, some v, x7, x8, x9, x10, x11, x12, y13, y14, x15, x16, x17, x18, x19] M := by
  obtain ⟨b, h1, h2, h3⟩ := are_hues_val M w hv
  have h4 := eq_are_hues M w h1
  obtain ⟨tb, eb⟩ := ev_reprP (Pl.bl (b := b) (k := 0) (w := 0)) (by omega) (by omega)
  have nb : ∀ t : Str, eqD true (.str t) (.str t) M = .ok (.bl false) M := fun t => by rw [ev_eqS]; simp
  obtain ⟨tr, er⟩ := ev_reprP (pl_row hv) (by omega) (by omega)
  cases b with
  | false =>
    have h5 := eq_direction_no M w h1
    refine ⟨some (.bl false), some (.tup [.str "BadRow", v]), ?_⟩
    unfold B_law_for1
    simp only [ev_seq, ev_asg, ev_call, ev_cons, ev_var, List.getElem?_cons_zero, List.getElem?_cons_succ, Rs.bind_ok, ev_nil, List.length_cons, List.length_nil, Nat.reduceAdd, if_true, h2, Rs.stm_ok, ev_gN, nxO_ok, List.set_cons_succ, List.set_cons_zero, ev_tup, ev_C, sz_of (show 0 + 1 + 1 ≤ 1000000 by omega), ev_sif, ev_tTru, tru_bl, ofO_some, Bool.false_eq_true, if_false, ev_nx, ev_tBl, ev_e2, ev_B, h4, eb, nb, ev_met, h5, met_row, er]
  | true =>
    obtain ⟨ns, rfl, hl, hb⟩ : ∃ ns : List Nat, v = .tup (natsD ns) ∧ ns.length = n ∧ true = huesN ts ns := by
      rcases h3 with h | h
      · exact h
      · cases h
    have h6 := eq_hued_direction M w hl
    have h5 := eq_direction_yes M w h1 h6
    have g1 : ∀ t ∈ ts, ixD (.tup (natsD ns)) (.int t.1) M = .ok (.int (ns.getD t.1 0 : Nat)) M := fun t ht => ix_nats M ns _ (by have := w.w.ok t ht; omega)
    have g2 : ∀ t ∈ ts, ixD (.tup (natsD ns)) (.int t.2) M = .ok (.int (ns.getD t.2 0 : Nat)) M := fun t ht => ix_nats M ns _ (by have := w.w.ok t ht; omega)
    have rv : ∀ t : Tie, revD (tieD t) M = .ok (tieD (t.2, t.1)) M := fun t => rfl
    have c : compL (gN 18) tYes' (eIf (tBl (e2 ltD (e2 ixD (eVar 6) (e2 ixD (eVar 18) (eC (.int 0)))) (e2 ixD (eVar 6) (e2 ixD (eVar 18) (eC (.int 1)))))) (eVar 18) (e1 revD (eVar 18))) [x0, x1, x2, some (webD n ts), x4, x5, some (.tup (natsD ns)), x7, x8, x9, x10, x11, x12, some (.bl true), some (.tup [.str "BadRow", .tup (natsD ns)]), x15, x16, x17, none, x19] (ts.map tieD) M [] = .ok (ts.map fun t => tieD (turnT ns t)) M := by
      have := compL_mapG (M := M) (gm := gN 18) (tt := tYes') (el := eIf (tBl (e2 ltD (e2 ixD (eVar 6) (e2 ixD (eVar 18) (eC (.int 0)))) (e2 ixD (eVar 6) (e2 ixD (eVar 18) (eC (.int 1)))))) (eVar 18) (e1 revD (eVar 18))) (δ := [x0, x1, x2, some (webD n ts), x4, x5, some (.tup (natsD ns)), x7, x8, x9, x10, x11, x12, some (.bl true), some (.tup [.str "BadRow", .tup (natsD ns)]), x15, x16, x17, none, x19]) tieD (fun t => tieD (turnT ns t)) (l := ts) (acc := []) (by simp; have := w.hl; omega) (fun t ht => by
        refine ⟨[x0, x1, x2, some (webD n ts), x4, x5, some (.tup (natsD ns)), x7, x8, x9, x10, x11, x12, some (.bl true), some (.tup [.str "BadRow", .tup (natsD ns)]), x15, x16, x17, some (tieD t), x19], rfl, rfl, ?_⟩
        by_cases h : ns.getD t.1 0 < ns.getD t.2 0
        · simp only [ev_if, ev_tBl, ev_e2, ev_var, ev_C, List.getElem?_cons_zero, List.getElem?_cons_succ, Rs.bind_ok, ix_tie0, ix_tie1, g1 t ht, g2 t ht, ev_lt, lt_nat, h, decide_true, if_true, turnT]
        · simp only [ev_if, ev_tBl, ev_e2, ev_var, ev_C, List.getElem?_cons_zero, List.getElem?_cons_succ, Rs.bind_ok, ix_tie0, ix_tie1, g1 t ht, g2 t ht, ev_lt, lt_nat, h, decide_false, Bool.false_eq_true, if_false, turnT, ev_e1, rv])
      rw [this, List.nil_append]
    have m := mkL_true M (ts.map fun t => tieD (turnT ns t)) (by have := w.hl; simp [sizeLine_eq]; omega)
    obtain ⟨td, ed⟩ := ev_reprP (Pl.tup (pl_ties (turnT ns) (turnT_ok w ns) (by have := w.hl; omega))) (by omega) (by omega)
    generalize (ts.map fun t => tieD (turnT ns t)) = row at *
    refine ⟨some (.bl true), some (.tup row), ?_⟩
    unfold B_law_for1
    simp only [ev_seq, ev_asg, ev_call, ev_cons, ev_var, List.getElem?_cons_zero, List.getElem?_cons_succ, Rs.bind_ok, ev_nil, List.length_cons, List.length_nil, Nat.reduceAdd, if_true, h2, Rs.stm_ok, ev_gN, nxO_ok, List.set_cons_succ, List.set_cons_zero, ev_tup, ev_C, sz_of (show 0 + 1 + 1 ≤ 1000000 by omega), ev_sif, ev_tTru, tru_bl, ofO_some, Bool.false_eq_true, if_false, ev_nx, ev_tBl, ev_e2, ev_B, h4, eb, nb, ev_met, h5, met_ok, ed, ev_lc, ev_aOf, ix_web1, itT, wipeD, c, m, ev_tupL]
end
end
end Dl

set_option Elab.async false
set_option linter.all false
set_option autoImplicit false
set_option maxRecDepth 100000
set_option maxHeartbeats 4000000
/-! the texts of pairs. -/
namespace Dl
noncomputable section
open PySem PySem.Spec L2
def pairT (a b : Nat) : Str := PyData.shown (.tuple [.int a, .int b])
theorem pairT_inj : ∀ a b c d : Fin 10, pairT a b = pairT c d → a = c ∧ b = d := by decide +kernel
theorem pairT_nat : ∀ k : Fin 21, ∀ c d : Fin 10, PyData.shown (.int k.val) ≠ pairT c d := by decide +kernel
theorem pairT_odd : ∀ c d : Fin 10, PyData.shown (.int (-1)) ≠ pairT c d ∧ PyData.shown .none ≠ pairT c d ∧ PyData.shown (.bool true) ≠ pairT c d ∧ PyData.shown (.tuple [.int 0]) ≠ pairT c d ∧ PyData.shown (.list [.int 0, .int 1]) ≠ pairT c d ∧ PyData.shown (.str "0") ≠ pairT c d := by decide +kernel
end
end Dl

set_option Elab.async false
set_option linter.all false
set_option autoImplicit false
set_option maxRecDepth 100000
set_option maxHeartbeats 4000000
/-! directions; the second inner loop. -/
namespace Dl
noncomputable section
open PySem PySem.Spec L2
theorem ev_reprS {d : D} {k w : Nat} (h : Pl d k w) (hk : k ≤ 60) (hw : w ≤ 1000000) {p : PyData} (hp : toP d = some p) (M : Mem) : reprD [d] M = .ok (.str p.shown) M := by
  obtain ⟨p', h1, h2, h3, h4, h5, h6⟩ := h.ex
  rw [hp] at h1
  cases h1
  have ok : showOk p = true := by
    have fit := PyData.shown_fits_bulk (B := 13) (by decide) (by decide) h6 (Nat.le_trans h5 (Nat.le_trans hw (by decide)))
    unfold showOk
    rw [h3, PyData.hasDict_of_canLay p h2]
    simp only [Bool.not_false, Bool.true_and, Bool.and_eq_true, decide_eq_true_eq, sz, cdec_iff]
    exact ⟨by omega, fit⟩
  by_cases hi : ∃ i, d = .int i
  · obtain ⟨i, rfl⟩ := hi
    cases hp
    rw [PyData.showable] at h3
    show (if decide (i.natAbs.log2 < 1920) then Rs.ok (D.str (toString i)) M else .no) = _
    rw [if_pos h3, PyData.shown]
  · have e : reprD [d] M = match toPM M d with
      | some p => if showOk p then .ok (.str (PyData.shown p)) M else .no
      | none => .no := by
      cases d with
      | int i => exact absurd ⟨i, rfl⟩ hi
      | _ => rfl
    rw [e, toPM_pl M hp]
    show (if showOk p then Rs.ok (D.str (PyData.shown p)) M else .no) = _
    rw [if_pos ok]
theorem pl_pair {a b : Nat} (ha : a ≤ 1000) (hb : b ≤ 1000) : Pl (.tup [.int a, .int b]) 1 2 := .tup ((PlA.cons (w1 := 0) (.nat (by omega)) (PlA.cons (w1 := 0) (w2 := 0) (.nat (by omega)) .nil)).mono (Nat.le_refl _) (by omega))
theorem repr_pair {a b : Nat} (ha : a ≤ 9) (hb : b ≤ 9) (M : Mem) : reprD [.tup [.int a, .int b]] M = .ok (.str (pairT a b)) M :=
  ev_reprS (pl_pair (by omega) (by omega)) (by omega) (by omega) (by simp only [toP, toPs, Option.map_some]) M
/-- a tie either way about -/
def itemB (t : Tie) : D → Bool
  | .tup [.int a, .int b] => (decide (a = t.1) && decide (b = t.2)) || (decide (a = t.2) && decide (b = t.1))
  | _ => false
theorem pairT_eq {a b c d : Nat} (ha : a ≤ 9) (hb : b ≤ 9) (hc : c ≤ 9) (hd : d ≤ 9) : decide (pairT a b = pairT c d) = (decide (a = c) && decide (b = d)) := by
  by_cases h : a = c ∧ b = d
  · obtain ⟨rfl, rfl⟩ := h
    simp
  · have : ¬ pairT a b = pairT c d := fun z => by
      have := pairT_inj ⟨a, by omega⟩ ⟨b, by omega⟩ ⟨c, by omega⟩ ⟨d, by omega⟩ z
      simp at this
      exact h this
    simp only [this, decide_false]
    symm
    rw [Bool.and_eq_false_iff]
    by_cases h1 : a = c
    · right; simp; intro z; exact h ⟨h1, z⟩
    · left; simp [h1]
/-- the law's word on an item by its text -/
theorem itm_cmp {t : Tie} (h1 : t.1 ≤ 9) (h2 : t.2 ≤ 9) {d : D} (h : Itm d) : ∃ s : Str, (∀ M, reprD [d] M = .ok (.str s) M) ∧ (decide (s = pairT t.1 t.2) || decide (s = pairT t.2 t.1)) = itemB t d := by
  have go : ∀ p : PyData, toP d = some p → itemB t d = false → p.shown ≠ pairT t.1 t.2 → p.shown ≠ pairT t.2 t.1 → ∃ s : Str, (∀ M, reprD [d] M = .ok (.str s) M) ∧ (decide (s = pairT t.1 t.2) || decide (s = pairT t.2 t.1)) = itemB t d := fun p hp hi n1 n2 =>
    ⟨p.shown, ev_reprS h.pl (by omega) (by omega) hp, by simp [n1, n2, hi]⟩
  have o := pairT_odd ⟨t.1, by omega⟩ ⟨t.2, by omega⟩
  have o' := pairT_odd ⟨t.2, by omega⟩ ⟨t.1, by omega⟩
  cases h with
  | nat k hk => exact go _ rfl rfl (pairT_nat ⟨k, by omega⟩ ⟨t.1, by omega⟩ ⟨t.2, by omega⟩) (pairT_nat ⟨k, by omega⟩ ⟨t.2, by omega⟩ ⟨t.1, by omega⟩)
  | non => exact go _ rfl rfl o.2.1 o'.2.1
  | tr => exact go _ rfl rfl o.2.2.1 o'.2.2.1
  | one => exact go _ (by simp only [toP, toPs, Option.map_some]) rfl o.2.2.2.1 o'.2.2.2.1
  | two a b ha hb =>
    refine ⟨pairT a b, repr_pair ha hb, ?_⟩
    rw [pairT_eq ha hb h1 h2, pairT_eq ha hb h2 h1]
    simp only [itemB, len_dec]
  | lst => exact go _ (by simp only [toP, toPs, Option.map_some]) rfl o.2.2.2.2.1 o'.2.2.2.2.1
  | neg => exact go _ rfl rfl o.1 o'.1
  | str => exact go _ rfl rfl o.2.2.2.2.2 o'.2.2.2.2.2
section
variable (M : Mem)
theorem ev_revT (t : Tie) : revD (tieD t) M = .ok (tieD (t.2, t.1)) M := rfl
theorem eq_is_item_of {t : Tie} {d : D} (h : Itm d) : F_is_item_of [tieD t, d] M = .ok (.bl (itemB t d)) M := by
  have hs : startD 3 [tieD t, d] = [some (tieD t), some d, none] := rfl
  unfold F_is_item_of defF
  rw [hs]
  cases h with
  | two a b ha hb =>
    have ca := eq_count_itm M (.nat a (by omega))
    have cb := eq_count_itm M (.nat b (by omega))
    have c : compL (gN 2) tYes' (eCall 1 F_is_count (aCons (eVar 2) aNil)) [some (tieD t), some (.tup [.int a, .int b]), none] [.int a, .int b] M [] = .ok [.bl true, .bl true] M := by
      have e1 : cnt (.int (a : Int)) = true := by simp [cnt]
      have e2 : cnt (.int (b : Int)) = true := by simp [cnt]
      rw [e1] at ca
      rw [e2] at cb
      simp [compL, ca, cb, sizeLine_eq]
    have m := mkL_true M [D.bl true, .bl true] (by simp [sizeLine_eq])
    have a1 : allD [.lst [.bl true, .bl true]] M = .ok (.bl true) M := rfl
    have i1 : inD false (.tup [.int a, .int b]) (.tup [tieD t, tieD (t.2, t.1)]) M = .ok (.bl (decide ((a, b) ∈ [t, (t.2, t.1)]))) M := ev_inT M false (a, b) [t, (t.2, t.1)]
    have ei : decide ((a, b) ∈ [t, (t.2, t.1)]) = itemB t (.tup [.int a, .int b]) := by
      obtain ⟨u, z⟩ := t
      simp only [itemB, len_dec, List.mem_cons, List.not_mem_nil, or_false, Prod.mk.injEq]
      rw [Bool.eq_iff_iff]
      simp only [Bool.or_eq_true, Bool.and_eq_true, decide_eq_true_eq]
    rw [ei] at i1
    have l2 : (((2 : Nat) : Int) = 2) := rfl
    simp only [B_is_item_of, ev_seq, ev_sif, ev_bOr, ev_bNot, ev_tTru, ev_B, ev_cons, ev_var, ev_C, List.getElem?_cons_zero, List.getElem?_cons_succ, Rs.bind_ok, ev_nil, isi_tup, tru_bl, ofO_some, Bool.not_true, Bool.false_eq_true, if_false, ev_tBl, ev_e2, ev_lenT, List.length_cons, List.length_nil, Nat.reduceAdd, ev_eqI, l2, decide_true, if_true, ev_lc, ev_aOf, itT, wipeD, List.set_cons_succ, List.set_cons_zero, c, m, a1, Rs.stm_ok, ev_nx, ev_ret, ev_tup, ev_e1, ev_revT, sz_of (show 2 ≤ 1000000 by omega), i1, dropM_same]
  | one => simp [B_is_item_of, isi_tup, dropM_same, itemB, -ev_isi]
  | lst => simp [B_is_item_of, isi_lst, dropM_same, itemB, -ev_isi]
  | non => simp [B_is_item_of, isi_non, dropM_same, itemB, -ev_isi]
  | nat k hk => simp [B_is_item_of, tyD, tyAsked, isiB, dropM_same, itemB]
  | tr => simp [B_is_item_of, tyD, tyAsked, isiB, dropM_same, itemB]
  | neg => simp [B_is_item_of, tyD, tyAsked, isiB, dropM_same, itemB]
  | str => simp [B_is_item_of, tyD, tyAsked, isiB, dropM_same, itemB]
def dirP (ts : List Tie) (xs : List D) : Bool := (ts.zip xs).all fun p => itemB p.1 p.2
theorem zip_items (ts : List Tie) (xs : List D) : zipA [.tup (ts.map tieD), .tup xs] M = some ((ts.zip xs).map fun p => D.tup [tieD p.1, p.2]) := by
  have e : zipA [.tup (ts.map tieD), .tup xs] M = some (((ts.map tieD).zip xs).map fun p => D.tup [p.1, p.2]) := rfl
  rw [e, List.zip_map_left, List.map_map]
  rfl
theorem nst (t : Str) : eqD true (.str t) (.str t) M = .ok (.bl false) M := by rw [ev_eqS]; simp
theorem nss (s t : Str) : eqD true (.str s) (.str t) M = .ok (.bl (!decide (s = t))) M := by rw [ev_eqS]; simp
theorem dir_loop (x0 x1 : Option D) : ∀ (l : List (Tie × D)), (∀ p ∈ l, Itm p.2 ∧ p.1.1 ≤ 9 ∧ p.1.2 ≤ 9) → ∀ y2 y3 : Option D, ∃ z2 z3 : Option D, forL (gTupD (gsCons (gN 2) (gsCons (gN 3) gsNil))) B__law_is_direction_for1 (l.map fun p => D.tup [tieD p.1, p.2]) [x0, x1, y2, y3] M =
    if (l.all fun p => itemB p.1 p.2) then .nx [x0, x1, z2, z3] M else .rt (.bl false) M
  | [], _, y2, y3 => ⟨y2, y3, by simp [forL]⟩
  | (t, d) :: l, h, y2, y3 => by
    obtain ⟨hd, h1, h2⟩ := h (t, d) List.mem_cons_self
    obtain ⟨s, e1, e2⟩ := itm_cmp h1 h2 hd
    have e3 := repr_pair h1 h2 M
    have e4 := repr_pair h2 h1 M
    have e3' : reprD [tieD t] M = .ok (.str (pairT t.1 t.2)) M := e3
    have e4' : reprD [tieD (t.2, t.1)] M = .ok (.str (pairT t.2 t.1)) M := e4
    obtain ⟨z2, z3, ih⟩ := dir_loop x0 x1 l (fun p hp => h p (List.mem_cons_of_mem _ hp)) (some (tieD t)) (some d)
    refine ⟨z2, z3, ?_⟩
    have eb : B__law_is_direction_for1 [x0, x1, some (tieD t), some d] M = if itemB t d then .nx [x0, x1, some (tieD t), some d] M else .rt (.bl false) M := by
      rw [← e2]
      by_cases q1 : s = pairT t.1 t.2
      · simp only [B__law_is_direction_for1, ev_sif, ev_bAnd, ev_tBl, ev_e2, ev_B, ev_cons, ev_var, List.getElem?_cons_zero, List.getElem?_cons_succ, Rs.bind_ok, ev_nil, e1, e3', nss, q1, decide_true, Bool.not_true, Bool.false_eq_true, if_false, Rs.stm_ok, ev_nx, Bool.true_or, if_true]
      · by_cases q2 : s = pairT t.2 t.1
        · simp only [B__law_is_direction_for1, ev_sif, ev_bAnd, ev_tBl, ev_e2, ev_e1, ev_revT, ev_B, ev_cons, ev_var, List.getElem?_cons_zero, List.getElem?_cons_succ, Rs.bind_ok, ev_nil, e1, e3', e4', nss, q1, decide_false, Bool.not_false, q2, decide_true, Bool.not_true, Bool.false_eq_true, if_false, Rs.stm_ok, ev_nx, Bool.or_true, if_true]
          rw [← q2]
          simp only [q1, decide_false, Bool.not_false, if_true, Bool.or_true, decide_true, Bool.not_true, Rs.stm_ok, Bool.false_eq_true, if_false]
        · simp only [B__law_is_direction_for1, ev_sif, ev_bAnd, ev_tBl, ev_e2, ev_e1, ev_revT, ev_B, ev_cons, ev_var, ev_C, List.getElem?_cons_zero, List.getElem?_cons_succ, Rs.bind_ok, ev_nil, e1, e3', e4', nss, q1, decide_false, Bool.not_false, q2, Bool.false_eq_true, if_false, Rs.stm_ok, ev_ret, Bool.or_false, if_true]
    rw [List.map_cons, forL]
    have eg : gTupD (gsCons (gN 2) (gsCons (gN 3) gsNil)) (.tup [tieD t, d]) [x0, x1, y2, y3] M = .ok [x0, x1, some (tieD t), some d] M := rfl
    rw [eg]
    cases hb : itemB t d with
    | true =>
      rw [hb] at eb
      simp only [if_true] at eb
      simp only [eb, List.all_cons, hb, Bool.true_and]
      exact ih
    | false =>
      rw [hb] at eb
      simp only [Bool.false_eq_true, if_false] at eb
      simp only [eb, List.all_cons, hb, Bool.false_and, Bool.false_eq_true, if_false]
end
end
end Dl

set_option Elab.async false
set_option linter.all false
set_option autoImplicit false
set_option maxRecDepth 100000
set_option maxHeartbeats 4000000
/-! directions; the second inner loop. -/
namespace Dl
noncomputable section
open PySem PySem.Spec L2
section
variable (M : Mem)
def dirB (ts : List Tie) (v : D) (b : Bool) : Prop := ∀ xs, v = .tup xs → xs.length = ts.length → b = dirP ts xs
theorem len_ix1 (n : Nat) (ts : List Tie) : lenD [.tup (ts.map tieD)] M = .ok (.int (ts.length : Nat)) M := by rw [ev_lenT, List.length_map]
theorem is_dir_tup {n : Nat} {ts : List Tie} (w : BWeb n ts) (hn : n ≤ 10) {xs : List D} (h : ∀ x ∈ xs, Itm x) (hl : xs.length ≤ 100) :
    ∃ b, F_is_direction_in [webD n ts, .tup xs] M = .ok (.bl b) M ∧ F__law_is_direction [webD n ts, .tup xs] M = .ok (.bl b) M ∧ dirB ts (.tup xs) b := by
  have hs4 : startD 4 [webD n ts, .tup xs] = [some (webD n ts), some (.tup xs), none, none] := rfl
  by_cases hq : xs.length = ts.length
  · have hn' : decide ((xs.length : Int) = (ts.length : Int)) = true := by rw [len_dec]; simp [hq]
    have ok : ∀ p ∈ ts.zip xs, Itm p.2 ∧ p.1.1 ≤ 9 ∧ p.1.2 ≤ 9 := fun p hp => by
      have h1 := List.of_mem_zip hp
      have h2 := w.w.ok p.1 h1.1
      exact ⟨h _ h1.2, by omega, by omega⟩
    have hzl : (ts.zip xs).length ≤ 200 := by rw [List.length_zip]; omega
    obtain ⟨z2, z3, el⟩ := dir_loop M (some (webD n ts)) (some (.tup xs)) (ts.zip xs) ok none none
    have ez := zip_items M ts xs
    have c : compL (gTupD (gsCons (gN 2) (gsCons (gN 3) gsNil))) tYes' (eCall 2 F_is_item_of (aCons (eVar 2) (aCons (eVar 3) aNil))) [some (webD n ts), some (.tup xs), none, none] ((ts.zip xs).map fun p => D.tup [tieD p.1, p.2]) M [] = .ok ((ts.zip xs).map fun p => .bl (itemB p.1 p.2)) M := by
      have := compL_mapG (M := M) (gm := gTupD (gsCons (gN 2) (gsCons (gN 3) gsNil))) (tt := tYes') (el := eCall 2 F_is_item_of (aCons (eVar 2) (aCons (eVar 3) aNil))) (δ := [some (webD n ts), some (.tup xs), none, none]) (fun p : Tie × D => D.tup [tieD p.1, p.2]) (fun p => .bl (itemB p.1 p.2)) (l := ts.zip xs) (acc := []) (by simp only [List.length_nil]; omega) (fun p hp => by
        refine ⟨[some (webD n ts), some (.tup xs), some (tieD p.1), some p.2], rfl, rfl, ?_⟩
        simp only [ev_call, ev_cons, ev_var, List.getElem?_cons_zero, List.getElem?_cons_succ, Rs.bind_ok, ev_nil, List.length_cons, List.length_nil, Nat.reduceAdd, if_true, eq_is_item_of M (ok p hp).1])
      rw [this, List.nil_append]
    have m := mkL_true M ((ts.zip xs).map fun p => D.bl (itemB p.1 p.2)) (by rw [List.length_map, sizeLine_eq]; omega)
    have a := all_mapB M (fun p : Tie × D => itemB p.1 p.2) (ts.zip xs)
    refine ⟨dirP ts xs, ?_, ?_, fun xs' e _ => by cases e; rfl⟩
    · unfold F_is_direction_in defF
      rw [hs4]
      simp only [B_is_direction_in, ev_seq, ev_sif, ev_bOr, ev_bNot, ev_tTru, ev_B, ev_cons, ev_var, ev_C, List.getElem?_cons_zero, List.getElem?_cons_succ, Rs.bind_ok, ev_nil, isi_tup, tru_bl, ofO_some, Bool.not_true, Bool.false_eq_true, if_false, ev_tBl, ev_e2, ev_lenT, ix_web1, len_ix1, List.length_map, ev_eqI, hn', if_true, ev_lc, ev_aArg, ez, wipeD, List.set_cons_succ, List.set_cons_zero, c, m, a, Rs.stm_ok, ev_ret, dropM_same, ev_nx, dirP]
    · unfold F__law_is_direction defF
      rw [hs4]
      simp only [B__law_is_direction, ev_seq, ev_sif, ev_bOr, ev_bNot, ev_tTru, ev_B, ev_cons, ev_var, ev_C, List.getElem?_cons_zero, List.getElem?_cons_succ, Rs.bind_ok, ev_nil, isi_tup, tru_bl, ofO_some, Bool.not_true, Bool.false_eq_true, if_false, ev_tBl, ev_e2, ev_lenT, ix_web1, len_ix1, List.length_map, ev_eqI, hn', if_true, ev_for, ev_aArg, ez, Rs.stm_ok, ev_nx, el]
      cases hd : ((ts.zip xs).all fun p => itemB p.1 p.2) with
      | true => simp only [if_true, ev_ret, ev_C, Rs.stm_ok, dropM_same, dirP, hd]
      | false => simp only [Bool.false_eq_true, if_false, dropM_same, dirP, hd]
  · have hn' : decide ((xs.length : Int) = (ts.length : Int)) = false := by rw [len_dec]; simp [hq]
    refine ⟨false, ?_, ?_, fun xs' e hh => by cases e; exact absurd hh hq⟩
    · unfold F_is_direction_in defF
      rw [hs4]
      simp only [B_is_direction_in, ev_seq, ev_sif, ev_bOr, ev_bNot, ev_tTru, ev_B, ev_cons, ev_var, ev_C, List.getElem?_cons_zero, List.getElem?_cons_succ, Rs.bind_ok, ev_nil, isi_tup, tru_bl, ofO_some, Bool.not_true, Bool.false_eq_true, if_false, ev_tBl, ev_e2, ev_lenT, ix_web1, len_ix1, List.length_map, ev_eqI, hn', if_true, Bool.not_false, Rs.stm_ok, ev_ret, dropM_same]
    · unfold F__law_is_direction defF
      rw [hs4]
      simp only [B__law_is_direction, ev_seq, ev_sif, ev_bOr, ev_bNot, ev_tTru, ev_B, ev_cons, ev_var, ev_C, List.getElem?_cons_zero, List.getElem?_cons_succ, Rs.bind_ok, ev_nil, isi_tup, tru_bl, ofO_some, Bool.not_true, Bool.false_eq_true, if_false, ev_tBl, ev_e2, ev_lenT, ix_web1, len_ix1, List.length_map, ev_eqI, hn', if_true, Bool.not_false, Rs.stm_ok, ev_ret, dropM_same]
theorem is_dir_val {n : Nat} {ts : List Tie} (w : BWeb n ts) (hn : n ≤ 10) {v : D} (h : Vl v) :
    ∃ b, F_is_direction_in [webD n ts, v] M = .ok (.bl b) M ∧ F__law_is_direction [webD n ts, v] M = .ok (.bl b) M ∧ dirB ts v b := by
  cases h with
  | tup xs h hl => exact is_dir_tup M w hn h hl
  | non => exact ⟨false, by simp [F_is_direction_in, B_is_direction_in, defF, startD, isi_non, dropM_same, -ev_isi], by simp [F__law_is_direction, B__law_is_direction, defF, startD, isi_non, dropM_same, -ev_isi], fun xs e => by cases e⟩
  | lst xs h hl => exact ⟨false, by simp [F_is_direction_in, B_is_direction_in, defF, startD, isi_lst, dropM_same, -ev_isi], by simp [F__law_is_direction, B__law_is_direction, defF, startD, isi_lst, dropM_same, -ev_isi], fun xs e => by cases e⟩
theorem eq_is_direction {n : Nat} {ts : List Tie} (w : BWeb n ts) {v : D} {b : Bool} (h : F_is_direction_in [webD n ts, v] M = .ok (.bl b) M) : F_is_direction [webD n ts, v] M = .ok (.bl b) M := by
  have e1 := eq_need_hue_web M w
  have hs : startD 2 [webD n ts, v] = [some (webD n ts), some v] := rfl
  unfold F_is_direction defF
  rw [hs]
  simp only [B_is_direction, ev_seq, ev_expr, ev_call, ev_cons, ev_var, List.getElem?_cons_zero, List.getElem?_cons_succ, Rs.bind_ok, ev_nil, List.length_cons, List.length_nil, Nat.reduceAdd, if_true, e1, Rs.stm_ok, ev_ret, h, dropM_same]
theorem need_dir_no {n : Nat} {ts : List Tie} (w : BWeb n ts) {v : D} (h : F_is_direction_in [webD n ts, v] M = .ok (.bl false) M) : F_need_direction [webD n ts, v] M = .ex ⟨3, [("row", v)]⟩ M := by
  have e1 := eq_need_hue_web M w
  have hs : startD 2 [webD n ts, v] = [some (webD n ts), some v] := rfl
  unfold F_need_direction defF
  rw [hs]
  simp only [B_need_direction, ev_seq, ev_expr, ev_call, ev_cons, ev_var, List.getElem?_cons_zero, List.getElem?_cons_succ, Rs.bind_ok, ev_nil, List.length_cons, List.length_nil, Nat.reduceAdd, if_true, e1, Rs.stm_ok, ev_sif, ev_bNot, ev_tTru, h, tru_bl, ofO_some, Bool.not_false, sRaise, List.zip_cons_cons, List.zip_nil_right, List.reverse_cons, List.reverse_nil, List.nil_append]
theorem need_dir_yes {n : Nat} {ts : List Tie} (w : BWeb n ts) {v : D} (h : F_is_direction_in [webD n ts, v] M = .ok (.bl true) M) : F_need_direction [webD n ts, v] M = .ok .non M := by
  have e1 := eq_need_hue_web M w
  have hs : startD 2 [webD n ts, v] = [some (webD n ts), some v] := rfl
  unfold F_need_direction defF
  rw [hs]
  simp only [B_need_direction, ev_seq, ev_expr, ev_call, ev_cons, ev_var, List.getElem?_cons_zero, List.getElem?_cons_succ, Rs.bind_ok, ev_nil, List.length_cons, List.length_nil, Nat.reduceAdd, if_true, e1, Rs.stm_ok, ev_sif, ev_bNot, ev_tTru, h, tru_bl, ofO_some, Bool.not_true, Bool.false_eq_true, if_false, ev_nx, dropM_same]
theorem is_way_no {n : Nat} {ts : List Tie} {v u : D} {x : Exn} (h : F_need_direction [webD n ts, v] M = .ex x M) : F_is_way [webD n ts, v, u] M = .ex x M := by
  have hs : startD 4 [webD n ts, v, u] = [some (webD n ts), some v, some u, none] := rfl
  unfold F_is_way defF
  rw [hs]
  simp only [B_is_way, ev_seq, ev_expr, ev_call, ev_cons, ev_var, List.getElem?_cons_zero, List.getElem?_cons_succ, Rs.bind_ok, ev_nil, List.length_cons, List.length_nil, Nat.reduceAdd, if_true, h]
  rfl
theorem for2_ok {n : Nat} {ts : List Tie} (w : BWeb n ts) (hn : n ≤ 10) {v : D} (hv : Vl v) (x0 x1 x2 x4 x5 x7 x8 x9 x10 x11 x12 x13 x14 x15 x16 x17 x18 x19 : Option D) :
    ∃ (y13 : Option D), B_law_for2 [x0, x1, x2, some (webD n ts), x4, x5, some v, x7, x8, x9, x10, x11, x12, x13, x14, x15, x16, x17, x18, x19] M =
      .nx [x0, x1, x2, some (webD n ts), x4, x5, some v, x7, x8, x9, x10, x11, x12, y13, x14, x15, x16, x17, x18, x19] M := by
  obtain ⟨b, h1, h2, h3⟩ := is_dir_val M w hn hv
  have h4 := eq_is_direction M w h1
  obtain ⟨tb, eb⟩ := ev_reprP (Pl.bl (b := b) (k := 0) (w := 0)) (by omega) (by omega)
  obtain ⟨tr, er⟩ := ev_reprP (pl_row hv) (by omega) (by omega)
  refine ⟨some (.bl b), ?_⟩
  cases b with
  | false =>
    have h5 := is_way_no M (u := .non) (need_dir_no M w h1)
    unfold B_law_for2
    simp only [ev_seq, ev_asg, ev_call, ev_cons, ev_var, List.getElem?_cons_zero, List.getElem?_cons_succ, Rs.bind_ok, ev_nil, List.length_cons, List.length_nil, Nat.reduceAdd, if_true, h2, Rs.stm_ok, ev_gN, nxO_ok, List.set_cons_succ, List.set_cons_zero, ev_tup, ev_C, sz_of (show 0 + 1 + 1 ≤ 1000000 by omega), ev_sif, ev_bAnd, ev_bNot, ev_tTru, tru_bl, ofO_some, Bool.false_eq_true, if_false, ev_nx, ev_tBl, ev_e2, ev_B, h4, eb, nst, ev_met, h5, met_row, er, Bool.not_false]
  | true =>
    unfold B_law_for2
    simp only [ev_seq, ev_asg, ev_call, ev_cons, ev_var, List.getElem?_cons_zero, List.getElem?_cons_succ, Rs.bind_ok, ev_nil, List.length_cons, List.length_nil, Nat.reduceAdd, if_true, h2, Rs.stm_ok, ev_gN, nxO_ok, List.set_cons_succ, List.set_cons_zero, ev_tup, ev_C, ev_sif, ev_bAnd, ev_bNot, ev_tTru, tru_bl, ofO_some, Bool.false_eq_true, if_false, ev_nx, ev_tBl, ev_e2, ev_B, h4, eb, nst, Bool.not_true]
end
end
end Dl

set_option Elab.async false
set_option linter.all false
set_option autoImplicit false
set_option maxRecDepth 100000
set_option maxHeartbeats 4000000
/-! ways. -/
namespace Dl
noncomputable section
open PySem PySem.Spec L2
/-! how many keys -/
def addK (ks : List Key) (k : Key) : List Key := if (ks.any fun x => decide (x = k)) = true then ks else ks ++ [k]
theorem putD_keys (kvs : List (Key × D)) (k : Key) (v : D) : (putD kvs k v).map Prod.fst = addK (kvs.map Prod.fst) k := by
  unfold putD addK
  rw [List.any_map]
  have e : (kvs.any ((fun x => decide (x = k)) ∘ Prod.fst)) = kvs.any fun kv => decide (kv.1 = k) := rfl
  rw [e]
  by_cases h : (kvs.any fun kv => decide (kv.1 = k)) = true
  · rw [if_pos h, if_pos h, List.map_map]
    congr 1
    funext kv
    simp only [Function.comp]
    split <;> rfl
  · rw [if_neg h, if_neg h, List.map_append]
    rfl
def keyN (q : Nat) : Key := .inl (q : Int)
def cntK (ns : List Nat) : Nat := (ns.foldl (fun ks q => addK ks (keyN q)) []).length
theorem addK_len (ks : List Key) (k : Key) : (addK ks k).length ≤ ks.length + 1 := by
  unfold addK
  split
  · omega
  · simp
theorem merge_keys : ∀ (ns : List Nat) (kvs : List (Key × D)), ((ns.map fun q => (keyN q, D.int 1)).foldl (fun acc kv => putD acc kv.1 kv.2) kvs).map Prod.fst = ns.foldl (fun ks q => addK ks (keyN q)) (kvs.map Prod.fst)
  | [], kvs => rfl
  | q :: ns, kvs => by
    rw [List.map_cons, List.foldl_cons, List.foldl_cons, merge_keys ns, putD_keys]
theorem pairsK_nats : ∀ ns : List Nat, pairsK (ns.map fun (q : Nat) => D.tup [.int q, .int 1]) = some (ns.map fun q => (keyN q, D.int 1))
  | [] => rfl
  | q :: ns => by rw [List.map_cons, pairsK, pairsK_nats ns]; rfl
theorem comp_keys {δ : Loc} {M : Mem} (g : Loc → Option D → Loc) (hg : ∀ d, gN 3 d δ M = .ok (g δ (some d)) M) (hv : ∀ d, eVar 3 (g δ (some d)) M = .ok d M) : ∀ (ns : List Nat) (kvs : List (Key × D)), kvs.length + ns.length ≤ 1000000 →
    ∃ kvs' : List (Key × D), kvs'.map Prod.fst = ns.foldl (fun ks q => addK ks (keyN q)) (kvs.map Prod.fst) ∧ compD (gN 3) tYes' (eVar 3) (eC (.bl true)) δ (natsD ns) M (.dK kvs) = .ok (.dK kvs') M
  | [], kvs, _ => ⟨kvs, rfl, by rw [natsD, List.map_nil, compD]⟩
  | q :: ns, kvs, hl => by
    rw [List.length_cons] at hl
    have hk := putD_keys kvs (keyN q) (.bl true)
    have hlen : (putD kvs (keyN q) (.bl true)).length ≤ kvs.length + 1 := by
      have h1 := addK_len (kvs.map Prod.fst) (keyN q)
      rw [← hk, List.length_map, List.length_map] at h1
      exact h1
    obtain ⟨kvs', h1, h2⟩ := comp_keys g hg hv ns (putD kvs (keyN q) (.bl true)) (by omega)
    refine ⟨kvs', by rw [h1, hk, List.foldl_cons], ?_⟩
    have hp : putO (.dK kvs) (.int (q : Int)) (.bl true) = some (.dK (putD kvs (keyN q) (.bl true))) := by
      show (if decide (kvs.length < sizeLine) then some (Ob.dK (putD kvs (.inl (q : Int)) (.bl true))) else none) = _
      rw [if_pos (by rw [sizeLine_eq]; exact decide_eq_true (by omega))]
      rfl
    have hcons : natsD (q :: ns) = .int (q : Int) :: natsD ns := rfl
    rw [hcons, compD, hg, Rs.bindN_ok, ev_yes, Rs.bindN_ok, if_pos rfl, hv, Rs.bindN_ok, ev_C, Rs.bindN_ok, hp]
    exact h2
theorem len_dK (M : Mem) (kvs : List (Key × D)) : lenD [.ref M.length] (M ++ [.dK kvs]) = .ok (.int (kvs.length : Nat)) (M ++ [.dK kvs]) := by
  have e : (M ++ [Ob.dK kvs])[M.length]? = some (.dK kvs) := get_new _ _
  simp only [lenD, getQ, getS, getL, e]
/-! ways -/
def edgeB (ps : List Tie) (ns : List Nat) : Bool := (ns.zip (ns.drop 1)).all fun p => decide (p ∈ ps)
def wayN (ps : List Tie) (ns : List Nat) : Bool := edgeB ps ns && decide (cntK ns = ns.length)
def plc (n : Nat) : D → Bool
  | .int i => decide (0 ≤ i) && decide (i < n)
  | _ => false
theorem plc_nats {n : Nat} : ∀ {xs : List D}, xs.all (plc n) = true → ∃ ns : List Nat, xs = natsD ns ∧ ∀ q ∈ ns, q < n
  | [], _ => ⟨[], rfl, fun q hq => by simp at hq⟩
  | x :: xs, h => by
    rw [List.all_cons, Bool.and_eq_true] at h
    obtain ⟨ns, rfl, h2⟩ := plc_nats h.2
    cases x with
    | int i =>
      have hi := h.1
      simp only [plc, Bool.and_eq_true, decide_eq_true_eq] at hi
      refine ⟨i.toNat :: ns, ?_, fun q hq => ?_⟩
      · show _ = D.int ((i.toNat : Nat) : Int) :: natsD ns
        rw [Int.toNat_of_nonneg hi.1]
      · rcases List.mem_cons.mp hq with rfl | hq
        · omega
        · exact h2 q hq
    | _ => exact absurd h.1 (by simp [plc])
section
variable (M : Mem)
theorem eq_place_plc {d : D} (n : Nat) (h : Itm d) : F_is_place [.int n, d] M = .ok (.bl (plc n d)) M := by
  have e := eq_count_itm M h
  cases h <;> simp [F_is_place, B_is_place, defF, startD, e, dropM_same, cnt, plc]
theorem cut_from' (ns : List Nat) : cutD (natsD ns) (some 1) none = natsD (ns.drop 1) := by
  rw [cut_from]
  simp [natsD]
theorem zip_nats (ns ms : List Nat) : zipA [.tup (natsD ns), .tup (natsD ms)] M = some ((ns.zip ms).map fun p => tieD p) := by
  have e : zipA [.tup (natsD ns), .tup (natsD ms)] M = some (((natsD ns).zip (natsD ms)).map fun p => D.tup [p.1, p.2]) := rfl
  rw [e, natsD, natsD, List.zip_map, List.map_map]
  rfl
theorem natsD_len (ns : List Nat) : (natsD ns).length = ns.length := by simp [natsD]
/-- the course -/
theorem eq_course {n : Nat} {ps : List Tie} (hps : ps.length ≤ 200) {xs : List D} (h : ∀ x ∈ xs, Itm x) (hl : xs.length ≤ 100) :
    (xs.all (plc n) = false ∨ xs = [] → F_is_course_in [webD n ps, .tup xs] M = .ok (.bl false) M) ∧
    (∀ ns, xs = natsD ns → xs ≠ [] → xs.all (plc n) = true → F_is_course_in [webD n ps, .tup xs] M = .ok (.bl (edgeB ps ns)) M) := by
  have hs : startD 5 [webD n ps, .tup xs] = [some (webD n ps), some (.tup xs), none, none, none] := rfl
  have c1 : compL (gN 4) tYes' (eCall 2 F_is_place (aCons (e2 ixD (eVar 0) (eC (.int 0))) (aCons (eVar 4) aNil))) [some (webD n ps), some (.tup xs), none, none, none] xs M [] = .ok (xs.map fun x => .bl (plc n x)) M := by
    have := compL_mapG (M := M) (gm := gN 4) (tt := tYes') (el := eCall 2 F_is_place (aCons (e2 ixD (eVar 0) (eC (.int 0))) (aCons (eVar 4) aNil))) (δ := [some (webD n ps), some (.tup xs), none, none, none]) (fun x => x) (fun x => .bl (plc n x)) (l := xs) (acc := []) (by simp; omega) (fun x hx => ⟨_, rfl, rfl, by
      simp only [ev_call, ev_cons, ev_var, ev_e2, ev_C, ix_web0, List.set_cons_succ, List.set_cons_zero, List.getElem?_cons_zero, List.getElem?_cons_succ, Rs.bind_ok, ev_nil, List.length_cons, List.length_nil, Nat.reduceAdd, if_true, eq_place_plc M n (h x hx)]⟩)
    rw [List.map_id'] at this
    rw [this, List.nil_append]
  have m1 := mkL_true M (xs.map fun x => D.bl (plc n x)) (by simp [sizeLine_eq]; omega)
  have a1 := all_mapB M (plc n) xs
  constructor
  · intro hh
    unfold F_is_course_in defF
    rw [hs]
    by_cases h0 : xs.length = 0
    · have h0' : decide ((xs.length : Int) = 0) = true := by rw [h0]; rfl
      simp only [B_is_course_in, ev_seq, ev_sif, ev_bOr, ev_bNot, ev_tTru, ev_B, ev_cons, ev_var, ev_C, List.getElem?_cons_zero, List.getElem?_cons_succ, Rs.bind_ok, ev_nil, isi_tup, tru_bl, ofO_some, Bool.not_true, Bool.false_eq_true, if_false, ev_tBl, ev_e2, ev_lenT, ev_eqI, h0', if_true, Rs.stm_ok, ev_ret, dropM_same]
    · have h0' : decide ((xs.length : Int) = 0) = false := decide_eq_false (by omega)
      have ha : xs.all (plc n) = false := hh.resolve_right fun z => h0 (by rw [z]; rfl)
      rw [ha] at a1
      simp only [B_is_course_in, ev_seq, ev_sif, ev_bOr, ev_bNot, ev_tTru, ev_B, ev_cons, ev_var, ev_C, List.getElem?_cons_zero, List.getElem?_cons_succ, Rs.bind_ok, ev_nil, isi_tup, tru_bl, ofO_some, Bool.not_true, Bool.false_eq_true, if_false, ev_tBl, ev_e2, ev_lenT, ev_eqI, h0', if_true, ev_lc, ev_aOf, itT, wipeD, List.set_cons_succ, List.set_cons_zero, c1, m1, a1, Bool.not_false, Rs.stm_ok, ev_ret, dropM_same]
  · intro ns hx hne ha
    subst hx
    have h0' : decide (((natsD ns).length : Int) = 0) = false := decide_eq_false (by
      cases ns with
      | nil => exact absurd rfl hne
      | cons q ns => simp [natsD]; omega)
    rw [ha] at a1
    have sl : sliceD true (.tup (natsD ns)) (some 1) none M = .ok (.tup (cutD (natsD ns) (some 1) none)) M := rfl
    rw [cut_from'] at sl
    have zz := zip_nats M ns (ns.drop 1)
    have hnl : ns.length ≤ 100 := by rw [natsD_len] at hl; exact hl
    have hzl : (ns.zip (ns.drop 1)).length ≤ 100 := by rw [List.length_zip]; omega
    have c2 : compL (gTupD (gsCons (gN 2) (gsCons (gN 3) gsNil))) tYes' (e2 (inD false) (eTup (aCons (eVar 2) (aCons (eVar 3) aNil))) (e2 ixD (eVar 0) (eC (.int 1)))) [some (webD n ps), some (.tup (natsD ns)), none, none, none] ((ns.zip (ns.drop 1)).map fun p => tieD p) M [] = .ok ((ns.zip (ns.drop 1)).map fun p => .bl (decide (p ∈ ps))) M := by
      have := compL_mapG (M := M) (gm := gTupD (gsCons (gN 2) (gsCons (gN 3) gsNil))) (tt := tYes') (el := e2 (inD false) (eTup (aCons (eVar 2) (aCons (eVar 3) aNil))) (e2 ixD (eVar 0) (eC (.int 1)))) (δ := [some (webD n ps), some (.tup (natsD ns)), none, none, none]) (fun p : Tie => tieD p) (fun p => .bl (decide (p ∈ ps))) (l := ns.zip (ns.drop 1)) (acc := []) (by simp only [List.length_nil]; omega) (fun p hp => by
        refine ⟨[some (webD n ps), some (.tup (natsD ns)), some (.int p.1), some (.int p.2), none], rfl, rfl, ?_⟩
        have i1 : inD false (.tup [.int p.1, .int p.2]) (.tup (ps.map tieD)) M = .ok (.bl (decide (p ∈ ps))) M := ev_inT M false p ps
        simp only [ev_e2, ev_tup, ev_cons, ev_var, ev_C, List.getElem?_cons_zero, List.getElem?_cons_succ, Rs.bind_ok, ev_nil, List.length_cons, List.length_nil, Nat.reduceAdd, sz_of (show 2 ≤ 1000000 by omega), if_true, ix_web1, i1])
      rw [this, List.nil_append]
    have m2 := mkL_true M ((ns.zip (ns.drop 1)).map fun p => D.bl (decide (p ∈ ps))) (by rw [List.length_map, sizeLine_eq]; omega)
    have a2 := all_mapB M (fun p : Tie => decide (p ∈ ps)) (ns.zip (ns.drop 1))
    unfold F_is_course_in defF
    rw [hs]
    simp only [B_is_course_in, ev_seq, ev_sif, ev_bOr, ev_bNot, ev_tTru, ev_B, ev_cons, ev_var, ev_C, List.getElem?_cons_zero, List.getElem?_cons_succ, Rs.bind_ok, ev_nil, isi_tup, tru_bl, ofO_some, Bool.not_true, Bool.false_eq_true, if_false, ev_tBl, ev_e2, ev_lenT, ev_eqI, h0', if_true, ev_lc, ev_aOf, itT, wipeD, List.set_cons_succ, List.set_cons_zero, c1, m1, a1, Rs.stm_ok, ev_nx, ev_ret, ev_aArg, ev_slice, ev_oSome, ev_oNo, sl, zz, c2, m2, a2, dropM_same, edgeB]
end
end
end Dl

set_option Elab.async false
set_option linter.all false
set_option autoImplicit false
set_option maxRecDepth 100000
set_option maxHeartbeats 4000000
/-! ways: the program's word and the law's. -/
namespace Dl
noncomputable section
open PySem PySem.Spec L2
section
variable (M : Mem)
theorem course_no {n : Nat} {ps : List Tie} {v : D} (h : v = .non ∨ ∃ xs, v = .lst xs) : F_is_course_in [webD n ps, v] M = .ok (.bl false) M := by
  rcases h with rfl | ⟨xs, rfl⟩
  · simp [F_is_course_in, B_is_course_in, defF, startD, isi_non, dropM_same, -ev_isi]
  · simp [F_is_course_in, B_is_course_in, defF, startD, isi_lst, dropM_same, -ev_isi]
theorem drop_bl (N : Mem) (b : Bool) : dropM M (.bl b) (M ++ N) = M := dropM_app (by rw [bel] <;> simp)
theorem is_way_course {n : Nat} {ts ps : List Tie} {v : D} (w : BWeb n ts) (hd : F_is_direction_in [webD n ts, .tup (ps.map tieD)] M = .ok (.bl true) M) (hc : F_is_course_in [webD n ps, v] M = .ok (.bl false) M) :
    F_is_way [webD n ts, .tup (ps.map tieD), v] M = .ok (.bl false) M := by
  have hs : startD 4 [webD n ts, .tup (ps.map tieD), v] = [some (webD n ts), some (.tup (ps.map tieD)), some v, none] := rfl
  have e1 := need_dir_yes M w hd
  have hc' : F_is_course_in [.tup [.int n, .tup (ps.map tieD)], v] M = .ok (.bl false) M := hc
  unfold F_is_way defF
  rw [hs]
  simp only [B_is_way, ev_seq, ev_expr, ev_call, ev_cons, ev_var, List.getElem?_cons_zero, List.getElem?_cons_succ, Rs.bind_ok, ev_nil, List.length_cons, List.length_nil, Nat.reduceAdd, if_true, e1, Rs.stm_ok, ev_sif, ev_bNot, ev_tTru, ev_tup, ev_e2, ev_C, ix_web0, sz_of (show 2 ≤ 1000000 by omega), hc', tru_bl, ofO_some, Bool.not_false, ev_ret, dropM_same]
theorem is_way_nats {n : Nat} {ts ps : List Tie} {ns : List Nat} (w : BWeb n ts) (hl : ns.length ≤ 100) (hd : F_is_direction_in [webD n ts, .tup (ps.map tieD)] M = .ok (.bl true) M) (hc : F_is_course_in [webD n ps, .tup (natsD ns)] M = .ok (.bl (edgeB ps ns)) M) :
    F_is_way [webD n ts, .tup (ps.map tieD), .tup (natsD ns)] M = .ok (.bl (wayN ps ns)) M := by
  cases he : edgeB ps ns with
  | false =>
    rw [he] at hc
    rw [is_way_course M w hd hc, wayN, he]
    rfl
  | true =>
    rw [he] at hc
    have hs : startD 4 [webD n ts, .tup (ps.map tieD), .tup (natsD ns)] = [some (webD n ts), some (.tup (ps.map tieD)), some (.tup (natsD ns)), none] := rfl
    have e1 := need_dir_yes M w hd
    have hc' : F_is_course_in [.tup [.int n, .tup (ps.map tieD)], .tup (natsD ns)] M = .ok (.bl true) M := hc
    obtain ⟨kvs, hk, ec⟩ := comp_keys (δ := [some (webD n ts), some (.tup (ps.map tieD)), some (.tup (natsD ns)), none]) (M := M) (fun δ d => δ.set 3 d) (fun d => rfl) (fun d => rfl) ns [] (by simp; omega)
    have hlen : kvs.length = cntK ns := by
      rw [← List.length_map (f := Prod.fst), hk]; rfl
    have ld := len_dK M kvs
    rw [hlen] at ld
    have hw : wayN ps ns = decide (((cntK ns : Nat) : Int) = (((natsD ns).length : Nat) : Int)) := by rw [wayN, he, Bool.true_and, natsD_len, len_dec]
    have dr := drop_bl M [.dK kvs] (wayN ps ns)
    have em : dEmp false = Ob.dK [] := rfl
    unfold F_is_way defF
    rw [hs]
    simp only [B_is_way, ev_seq, ev_expr, ev_call, ev_cons, ev_var, List.getElem?_cons_zero, List.getElem?_cons_succ, Rs.bind_ok, ev_nil, List.length_cons, List.length_nil, Nat.reduceAdd, if_true, e1, Rs.stm_ok, ev_sif, ev_bNot, ev_tTru, ev_tup, ev_e2, ev_C, ix_web0, sz_of (show 2 ≤ 1000000 by omega), hc', tru_bl, ofO_some, Bool.not_true, Bool.false_eq_true, if_false, ev_nx, ev_ret, ev_B, ev_dc, ev_aOf, itT, wipeD, List.set_cons_succ, List.set_cons_zero, em, ec, ld, ev_lenT, ev_eqI, ← hw, dr]
/-- the law's own -/
theorem filt_empty {α : Type} (l : List α) (p : α → Bool) : (l.filter fun x => !p x).isEmpty = l.all p := by
  cases hq : l.all p with
  | true =>
    rw [List.isEmpty_iff, List.filter_eq_nil_iff]
    intro x hx
    simpa using List.all_eq_true.mp hq x hx
  | false =>
    cases hf : l.filter fun x => !p x with
    | nil =>
      exfalso
      rw [List.filter_eq_nil_iff] at hf
      have : l.all p = true := List.all_eq_true.mpr fun x hx => by simpa using hf x hx
      rw [hq] at this; cases this
    | cons _ _ => rfl
def isI : D → Bool
  | .int _ => true
  | _ => false
theorem plc_isI {n : Nat} {x : D} (h : plc n x = true) : isI x = true := by
  cases x <;> first | rfl | cases h
theorem law_way_no {a d v : D} (h : v = .non ∨ ∃ xs, v = .lst xs) : F__law_is_way [a, d, v] M = .ok (.bl false) M := by
  rcases h with rfl | ⟨xs, rfl⟩
  · simp [F__law_is_way, B__law_is_way, defF, startD, isi_non, dropM_same, -ev_isi]
  · simp [F__law_is_way, B__law_is_way, defF, startD, isi_lst, dropM_same, -ev_isi]
section
variable {n : Nat} {ts ps : List Tie} {xs : List D} (h : ∀ x ∈ xs, Itm x) (hl : xs.length ≤ 100)
include h hl
theorem law_way_nil (hx : xs = []) : F__law_is_way [webD n ts, .tup (ps.map tieD), .tup xs] M = .ok (.bl false) M := by
  subst hx
  have hs : startD 5 [webD n ts, .tup (ps.map tieD), .tup []] = [some (webD n ts), some (.tup (ps.map tieD)), some (.tup []), none, none] := rfl
  have e0 := ev_eqNilT (ds := []) (k := 0) (w := 0) .nil (by omega) M false
  simp only [Bool.false_eq_true, if_false, List.isEmpty_nil] at e0
  unfold F__law_is_way defF
  rw [hs]
  simp only [B__law_is_way, ev_seq, ev_sif, ev_bOr, ev_bNot, ev_tTru, ev_B, ev_cons, ev_var, ev_C, List.getElem?_cons_zero, List.getElem?_cons_succ, Rs.bind_ok, ev_nil, isi_tup, tru_bl, ofO_some, Bool.not_true, Bool.false_eq_true, if_false, ev_tBl, ev_e2, ev_tup, List.length_nil, sz_of (show 0 ≤ 1000000 by omega), if_true, e0, Rs.stm_ok, ev_ret, dropM_same]
theorem law_way_first (hx : xs ≠ []) (δ2 : Loc) (hδ : δ2 = [some (webD n ts), some (.tup (ps.map tieD)), some (.tup xs), none, none]) (s t : SS) :
    sSeq (sIf (bOr (bNot (tTru (eB isiD (aCons (eVar 2) (aCons (eC (.ty "tuple")) aNil))))) (tBl (e2 (eqD false) (eVar 2) (eTup aNil)))) s sNx) t δ2 M = t δ2 M ∧
    (tBl (e2 (eqD true) (eLc true (aOf itT (eVar 2)) (gN 3) (bOr (bNot (tTru (eB isiD (aCons (eVar 3) (aCons (eC (.ty "int")) aNil))))) (tTru (eB isiD (aCons (eVar 3) (aCons (eC (.ty "bool")) aNil))))) (eVar 3) [3]) (eLst true aNil))) δ2 M = .ok (!xs.all isI) M ∧
    (xs.all isI = true → (tBl (e2 (eqD true) (eLc true (aOf itT (eVar 2)) (gN 3) (bNot (tBl (eChain leD ltD (eC (.int 0)) (eVar 3) (e2 ixD (eVar 0) (eC (.int 0)))))) (eVar 3) [3]) (eLst true aNil))) δ2 M = .ok (!xs.all (plc n)) M) := by
  subst hδ
  have e0 := ev_eqNilT (Itm.pls h hl) (by omega) M false
  have hne : xs.isEmpty = false := by cases xs <;> first | rfl | exact absurd rfl hx
  simp only [Bool.false_eq_true, if_false, hne] at e0
  have m0 : mkL true ([] : List D) M = .ok (.lst []) M := mkL_true _ _ (Nat.zero_le _)
  have flt : ∀ p : D → Bool, mkL true (xs.filter fun x => !p x) M = .ok (.lst (xs.filter fun x => !p x)) M ∧ eqD true (.lst (xs.filter fun x => !p x)) (.lst []) M = .ok (.bl (!xs.all p)) M := fun p => by
    have hf := List.length_filter_le (fun x => !p x) xs
    have n2 := ev_neNilP (Itm.pls (xs := xs.filter fun x => !p x) (fun x hx => h x (List.mem_filter.mp hx).1) (by omega)) (by omega) M true
    simp only [if_true, filt_empty] at n2
    exact ⟨mkL_true M _ (by rw [sizeLine_eq]; omega), n2⟩
  refine ⟨?_, ?_, fun hI => ?_⟩
  · simp only [ev_seq, ev_sif, ev_bOr, ev_bNot, ev_tTru, ev_B, ev_cons, ev_var, ev_C, List.getElem?_cons_zero, List.getElem?_cons_succ, Rs.bind_ok, ev_nil, isi_tup, tru_bl, ofO_some, Bool.not_true, Bool.false_eq_true, if_false, ev_tBl, ev_e2, ev_tup, List.length_nil, sz_of (show 0 ≤ 1000000 by omega), if_true, e0, Rs.stm_ok, ev_nx]
  · have c : compL (gN 3) (bOr (bNot (tTru (eB isiD (aCons (eVar 3) (aCons (eC (.ty "int")) aNil))))) (tTru (eB isiD (aCons (eVar 3) (aCons (eC (.ty "bool")) aNil))))) (eVar 3) [some (webD n ts), some (.tup (ps.map tieD)), some (.tup xs), none, none] xs M [] = .ok (xs.filter fun x => !isI x) M := by
      have := compL_filterG (M := M) (gm := gN 3) (tt := bOr (bNot (tTru (eB isiD (aCons (eVar 3) (aCons (eC (.ty "int")) aNil))))) (tTru (eB isiD (aCons (eVar 3) (aCons (eC (.ty "bool")) aNil))))) (el := eVar 3) (δ := [some (webD n ts), some (.tup (ps.map tieD)), some (.tup xs), none, none]) (fun x => x) (fun x => x) (fun x => !isI x) (l := xs) (acc := []) (by simp; omega) (fun x hx => ⟨_, rfl, by
        cases h x hx <;> simp [tyD, tyAsked, isiB, truD, isI], fun _ => rfl⟩)
      rw [List.map_id', List.map_id'] at this
      rw [this, List.nil_append]
    simp only [ev_tBl, ev_e2, ev_lc, ev_aOf, ev_var, List.getElem?_cons_zero, List.getElem?_cons_succ, Rs.bind_ok, itT, ofO_some, wipeD, List.set_cons_succ, List.set_cons_zero, c, (flt isI).1, (flt isI).2, ev_lst, ev_nil, m0]
  · have c : compL (gN 3) (bNot (tBl (eChain leD ltD (eC (.int 0)) (eVar 3) (e2 ixD (eVar 0) (eC (.int 0)))))) (eVar 3) [some (webD n ts), some (.tup (ps.map tieD)), some (.tup xs), none, none] xs M [] = .ok (xs.filter fun x => !plc n x) M := by
      have := compL_filterG (M := M) (gm := gN 3) (tt := bNot (tBl (eChain leD ltD (eC (.int 0)) (eVar 3) (e2 ixD (eVar 0) (eC (.int 0)))))) (el := eVar 3) (δ := [some (webD n ts), some (.tup (ps.map tieD)), some (.tup xs), none, none]) (fun x => x) (fun x => x) (fun x => !plc n x) (l := xs) (acc := []) (by simp; omega) (fun x hx => by
        have hi := List.all_eq_true.mp hI x hx
        cases x with
        | int i =>
          refine ⟨_, rfl, ?_, fun _ => rfl⟩
          by_cases hq : 0 ≤ i
          · simp [eChain, ix_web0, plc, hq]
          · simp [eChain, ix_web0, plc, hq]
        | _ => cases hi)
      rw [List.map_id', List.map_id'] at this
      rw [this, List.nil_append]
    simp only [ev_tBl, ev_e2, ev_lc, ev_aOf, ev_var, List.getElem?_cons_zero, List.getElem?_cons_succ, Rs.bind_ok, itT, ofO_some, wipeD, List.set_cons_succ, List.set_cons_zero, c, (flt (plc n)).1, (flt (plc n)).2, ev_lst, ev_nil, m0]
end
end
end
end Dl

set_option Elab.async false
set_option linter.all false
set_option autoImplicit false
set_option maxRecDepth 100000
set_option maxHeartbeats 4000000
/-! ways: both words are one. -/
namespace Dl
noncomputable section
open PySem PySem.Spec L2
theorem edge_range (ps : List Tie) (ns : List Nat) : ((List.range (ns.length - 1)).all fun q => decide ((ns.getD q 0, ns.getD (q + 1) 0) ∈ ps)) = edgeB ps ns := by
  rw [Bool.eq_iff_iff, edgeB, List.all_eq_true, List.all_eq_true]
  constructor
  · intro hh p hp
    obtain ⟨q, hq, rfl⟩ := List.mem_iff_getElem.mp hp
    have hq' : q < ns.length - 1 := by rw [List.length_zip, List.length_drop] at hq; omega
    have := hh q (List.mem_range.mpr hq')
    have e : (ns.zip (ns.drop 1))[q] = (ns.getD q 0, ns.getD (q + 1) 0) := by
      rw [List.getElem_zip]
      have h1 : q < ns.length := by omega
      have h2 : q + 1 < ns.length := by omega
      simp [h1, h2, List.getElem_drop, Nat.add_comm]
    rw [e]
    exact this
  · intro hh q hq
    have hq' : q < ns.length - 1 := List.mem_range.mp hq
    have hz : q < (ns.zip (ns.drop 1)).length := by rw [List.length_zip, List.length_drop]; omega
    have := hh _ (List.getElem_mem hz)
    have e : (ns.zip (ns.drop 1))[q] = (ns.getD q 0, ns.getD (q + 1) 0) := by
      rw [List.getElem_zip]
      have h1 : q < ns.length := by omega
      have h2 : q + 1 < ns.length := by omega
      simp [h1, h2, List.getElem_drop, Nat.add_comm]
    rw [e] at this
    exact this
section
variable (M : Mem)
section
variable {n : Nat} {ts ps : List Tie} {xs : List D} (h : ∀ x ∈ xs, Itm x) (hl : xs.length ≤ 100) (hx : xs ≠ [])
include h hl hx
theorem law_way_bad (hp : xs.all (plc n) = false) : F__law_is_way [webD n ts, .tup (ps.map tieD), .tup xs] M = .ok (.bl false) M := by
  have hs : startD 5 [webD n ts, .tup (ps.map tieD), .tup xs] = [some (webD n ts), some (.tup (ps.map tieD)), some (.tup xs), none, none] := rfl
  have k := law_way_first M (n := n) (ts := ts) (ps := ps) h hl hx _ rfl
  unfold F__law_is_way defF
  rw [hs, B__law_is_way, (k _ _).1]
  have k2 := (k sNx sNx).2.1
  have k3 := (k sNx sNx).2.2
  cases hI : xs.all isI with
  | false =>
    rw [hI] at k2
    rw [ev_seq, sif_yes _ _ _ _ _ _ k2]
    simp only [ev_ret, ev_C, Rs.stm_ok, dropM_same]
  | true =>
    rw [hI] at k2
    have k3 := k3 hI
    rw [hp] at k3
    rw [seq_skip _ _ _ _ _ M k2, ev_seq]
    rw [sif_yes _ _ _ _ _ M (by rw [ev_bOr, k3]; rfl)]
    simp only [ev_ret, ev_C, Rs.stm_ok, dropM_same]
theorem law_way_nats {ns : List Nat} (hps : ps.length ≤ 200) (hp : xs.all (plc n) = true) (hxs : xs = natsD ns) : F__law_is_way [webD n ts, .tup (ps.map tieD), .tup xs] M = .ok (.bl (wayN ps ns)) M := by
  have hs : startD 5 [webD n ts, .tup (ps.map tieD), .tup xs] = [some (webD n ts), some (.tup (ps.map tieD)), some (.tup xs), none, none] := rfl
  have k := law_way_first M (n := n) (ts := ts) (ps := ps) h hl hx _ rfl
  unfold F__law_is_way defF
  rw [hs, B__law_is_way, (k _ _).1]
  have k2 := (k sNx sNx).2.1
  have k3 := (k sNx sNx).2.2
  have hI : xs.all isI = true := List.all_eq_true.mpr fun x hx => plc_isI (List.all_eq_true.mp hp x hx)
  rw [hI] at k2
  have k3 := k3 hI
  rw [hp] at k3
  rw [seq_skip _ _ _ _ _ M k2]
  subst hxs
  have hnl : ns.length ≤ 100 := by rw [natsD_len] at hl; exact hl
  -- the count of keys
  have c1 : compL (gN 4) tYes' (eTup (aCons (eVar 4) (aCons (eC (.int 1)) aNil))) [some (webD n ts), some (.tup (ps.map tieD)), some (.tup (natsD ns)), none, none] (natsD ns) M [] = .ok (ns.map fun (q : Nat) => D.tup [.int q, .int 1]) M := by
    have := compL_mapG (M := M) (gm := gN 4) (tt := tYes') (el := eTup (aCons (eVar 4) (aCons (eC (.int 1)) aNil))) (δ := [some (webD n ts), some (.tup (ps.map tieD)), some (.tup (natsD ns)), none, none]) (fun (q : Nat) => D.int q) (fun (q : Nat) => D.tup [.int q, .int 1]) (l := ns) (acc := []) (by simp; omega) (fun q hq => ⟨_, rfl, rfl, by
      simp only [ev_tup, ev_cons, ev_var, ev_C, List.set_cons_succ, List.set_cons_zero, List.getElem?_cons_zero, List.getElem?_cons_succ, Rs.bind_ok, ev_nil, List.length_cons, List.length_nil, Nat.reduceAdd, sz_of (show 2 ≤ 1000000 by omega), if_true]⟩)
    exact this.trans (by rw [List.nil_append])
  have m1 := mkL_true M (ns.map fun (q : Nat) => D.tup [.int q, .int 1]) (by rw [List.length_map, sizeLine_eq]; omega)
  have dk : dictKD [.lst (ns.map fun (q : Nat) => D.tup [.int q, .int 1])] M = .ok (.ref M.length) (M ++ [.dK (mergeD (ns.map fun q => (keyN q, D.int 1)))]) := by
    have : (getS M (.lst (ns.map fun (q : Nat) => D.tup [.int q, .int 1]))).bind pairsK = some (ns.map fun q => (keyN q, D.int 1)) := by
      show pairsK _ = _
      exact pairsK_nats ns
    simp only [dictKD, this]
  have hlen : (mergeD (ns.map fun q => (keyN q, D.int 1))).length = cntK ns := by
    rw [← List.length_map (f := Prod.fst), mergeD, merge_keys]; rfl
  have ld := len_dK M (mergeD (ns.map fun q => (keyN q, D.int 1)))
  rw [hlen] at ld
  have hne2 : eqD true (.int ((cntK ns : Nat) : Int)) (.int (((natsD ns).length : Nat) : Int)) (M ++ [.dK (mergeD (ns.map fun q => (keyN q, D.int 1)))]) = .ok (.bl (!decide (cntK ns = ns.length))) (M ++ [.dK (mergeD (ns.map fun q => (keyN q, D.int 1)))]) := by
    rw [ev_eqI, if_pos rfl, len_dec, natsD_len]
  have cond : (bOr (tBl (e2 (eqD true) (eLc true (aOf itT (eVar 2)) (gN 3) (bNot (tBl (eChain leD ltD (eC (.int 0)) (eVar 3) (e2 ixD (eVar 0) (eC (.int 0)))))) (eVar 3) [3]) (eLst true aNil))) (tBl (e2 (eqD true) (eB lenD (aCons (eB dictKD (aCons (eLc true (aOf itT (eVar 2)) (gN 4) tYes' (eTup (aCons (eVar 4) (aCons (eC (.int 1)) aNil))) [4]) aNil)) aNil)) (eB lenD (aCons (eVar 2) aNil)))))
      [some (webD n ts), some (.tup (ps.map tieD)), some (.tup (natsD ns)), none, none] M = .ok (!decide (cntK ns = ns.length)) (M ++ [.dK (mergeD (ns.map fun q => (keyN q, D.int 1)))]) := by
    rw [ev_bOr, k3]
    simp only [Rs.bind_ok, Bool.not_true, Bool.false_eq_true, if_false]
    simp only [ev_tBl, ev_e2, ev_B, ev_cons, ev_lc, ev_aOf, ev_var, List.getElem?_cons_zero, List.getElem?_cons_succ, Rs.bind_ok, itT, ofO_some, wipeD, List.set_cons_succ, List.set_cons_zero, c1, m1, dk, ld, ev_nil, ev_lenT, hne2]
  cases hq : decide (cntK ns = ns.length) with
  | false =>
    rw [hq] at cond
    rw [ev_seq, sif_yes _ _ _ _ _ _ cond]
    simp only [ev_ret, ev_C, Rs.stm_ok, drop_bl, wayN, hq, Bool.and_false]
  | true =>
    rw [hq] at cond
    rw [seq_skip _ _ _ _ _ _ cond]
    generalize hM2 : (M ++ [Ob.dK (mergeD (ns.map fun q => (keyN q, D.int 1)))]) = M2
    have r2 := rng2_ok 1 ns.length (by omega) (by omega)
    have r2' : rng2 [.int 1, .int (((natsD ns).length : Nat) : Int)] = some ((List.range (ns.length - 1)).map fun (q : Nat) => D.int ((1 + q : Nat) : Int)) := by rw [natsD_len]; exact r2
    have c2 : compL (gN 4) (tBl (e2 (inD true) (eTup (aCons (e2 ixD (eVar 2) (e2 subD (eVar 4) (eC (.int 1)))) (aCons (e2 ixD (eVar 2) (eVar 4)) aNil))) (eVar 1))) (eVar 4) [some (webD n ts), some (.tup (ps.map tieD)), some (.tup (natsD ns)), none, none] ((List.range (ns.length - 1)).map fun (q : Nat) => D.int ((1 + q : Nat) : Int)) M2 [] =
        .ok (((List.range (ns.length - 1)).filter fun q => !decide ((ns.getD q 0, ns.getD (q + 1) 0) ∈ ps)).map fun (q : Nat) => D.int ((1 + q : Nat) : Int)) M2 := by
      have := compL_filterG (M := M2) (gm := gN 4) (tt := tBl (e2 (inD true) (eTup (aCons (e2 ixD (eVar 2) (e2 subD (eVar 4) (eC (.int 1)))) (aCons (e2 ixD (eVar 2) (eVar 4)) aNil))) (eVar 1))) (el := eVar 4) (δ := [some (webD n ts), some (.tup (ps.map tieD)), some (.tup (natsD ns)), none, none]) (fun (q : Nat) => D.int ((1 + q : Nat) : Int)) (fun (q : Nat) => D.int ((1 + q : Nat) : Int)) (fun q => !decide ((ns.getD q 0, ns.getD (q + 1) 0) ∈ ps)) (l := List.range (ns.length - 1)) (acc := []) (by simp; omega) (fun q hq => by
        have hq' := List.mem_range.mp hq
        refine ⟨[some (webD n ts), some (.tup (ps.map tieD)), some (.tup (natsD ns)), none, some (.int ((1 + q : Nat) : Int))], rfl, ?_, fun _ => rfl⟩
        have s1 : ((1 + q : Nat) : Int) - 1 = (q : Int) := by omega
        have g1 := ix_nats M2 ns q (by omega)
        have g2 := ix_nats M2 ns (1 + q) (by omega)
        rw [show (1 + q) = q + 1 by omega] at g2
        have i1 : inD true (.tup [.int (ns.getD q 0 : Nat), .int (ns.getD (q + 1) 0 : Nat)]) (.tup (ps.map tieD)) M2 = .ok (.bl (!decide ((ns.getD q 0, ns.getD (q + 1) 0) ∈ ps))) M2 := ev_inT M2 true (ns.getD q 0, ns.getD (q + 1) 0) ps
        rw [show (1 + q) = q + 1 by omega] at s1 ⊢
        simp only [ev_tBl, ev_e2, ev_tup, ev_cons, ev_var, ev_C, List.getElem?_cons_zero, List.getElem?_cons_succ, Rs.bind_ok, ev_sub, s1, g1, g2, ev_nil, List.length_cons, List.length_nil, Nat.reduceAdd, sz_of (show 2 ≤ 1000000 by omega), if_true, i1])
      rw [this, List.nil_append]
    have hfl := List.length_filter_le (fun q => !decide ((ns.getD q 0, ns.getD (q + 1) 0) ∈ ps)) (List.range (ns.length - 1))
    rw [List.length_range] at hfl
    have m2 := mkL_true M2 (((List.range (ns.length - 1)).filter fun q => !decide ((ns.getD q 0, ns.getD (q + 1) 0) ∈ ps)).map fun (q : Nat) => D.int ((1 + q : Nat) : Int)) (by rw [List.length_map, sizeLine_eq]; omega)
    have n2 := ev_neNil M2 false (((List.range (ns.length - 1)).filter fun q => !decide ((ns.getD q 0, ns.getD (q + 1) 0) ∈ ps)).map fun (q : Nat) => ((1 + q : Nat) : Int))
    rw [List.map_map, List.isEmpty_map, filt_empty, edge_range] at n2
    have n2' : eqD false (.lst (((List.range (ns.length - 1)).filter fun q => !decide ((ns.getD q 0, ns.getD (q + 1) 0) ∈ ps)).map fun (q : Nat) => D.int ((1 + q : Nat) : Int))) (.lst []) M2 = .ok (.bl (edgeB ps ns)) M2 := n2
    have m0 : mkL true ([] : List D) M2 = .ok (.lst []) M2 := mkL_true _ _ (Nat.zero_le _)
    have dr : ∀ b, dropM M (.bl b) M2 = M := fun b => by rw [← hM2]; exact drop_bl M _ b
    simp only [ev_ret, ev_e2, ev_lc, ev_aRng, ev_cons, ev_C, ev_B, ev_var, List.getElem?_cons_zero, List.getElem?_cons_succ, Rs.bind_ok, ev_lenT, ev_nil, r2', ofO_some, wipeD, List.set_cons_succ, List.set_cons_zero, c2, m2, ev_lst, m0, n2', Rs.stm_ok, dr, wayN, hq, Bool.and_true]
end
theorem way_val {n : Nat} {ts ps : List Tie} {v : D} (w : BWeb n ts) (hps : ps.length ≤ 200) (hd : F_is_direction_in [webD n ts, .tup (ps.map tieD)] M = .ok (.bl true) M) (hv : Vl v) :
    ∃ b, F_is_way [webD n ts, .tup (ps.map tieD), v] M = .ok (.bl b) M ∧ F__law_is_way [webD n ts, .tup (ps.map tieD), v] M = .ok (.bl b) M := by
  cases hv with
  | non => exact ⟨false, is_way_course M w hd (course_no M (.inl rfl)), law_way_no M (.inl rfl)⟩
  | lst xs h hl => exact ⟨false, is_way_course M w hd (course_no M (.inr ⟨xs, rfl⟩)), law_way_no M (.inr ⟨xs, rfl⟩)⟩
  | tup xs h hl =>
    have ec := eq_course M (n := n) hps h hl
    by_cases hx : xs = []
    · exact ⟨false, is_way_course M w hd (ec.1 (.inr hx)), law_way_nil M h hl hx⟩
    · cases hp : xs.all (plc n) with
      | false => exact ⟨false, is_way_course M w hd (ec.1 (.inl hp)), law_way_bad M h hl hx hp⟩
      | true =>
        obtain ⟨ns, hxs, _⟩ := plc_nats hp
        have hc := ec.2 ns hxs hx hp
        refine ⟨wayN ps ns, ?_, law_way_nats M h hl hx hps hp hxs⟩
        subst hxs
        exact is_way_nats M w (by rw [natsD_len] at hl; exact hl) hd hc
theorem for4_ok {n : Nat} {ts ps : List Tie} {v : D} (w : BWeb n ts) (hps : ps.length ≤ 200) (hd : F_is_direction_in [webD n ts, .tup (ps.map tieD)] M = .ok (.bl true) M) (hv : Vl v) (x0 x1 x2 x4 x5 x7 x8 x9 x10 x11 x13 x14 x15 x16 x17 x18 x19 : Option D) :
    B_law_for4 [x0, x1, x2, some (webD n ts), x4, x5, some v, x7, x8, x9, x10, x11, some (.tup (ps.map tieD)), x13, x14, x15, x16, x17, x18, x19] M =
      .nx [x0, x1, x2, some (webD n ts), x4, x5, some v, x7, x8, x9, x10, x11, some (.tup (ps.map tieD)), x13, x14, x15, x16, x17, x18, x19] M := by
  obtain ⟨b, h1, h2⟩ := way_val M w hps hd hv
  obtain ⟨tb, eb⟩ := ev_reprP (Pl.bl (b := b) (k := 0) (w := 0)) (by omega) (by omega)
  unfold B_law_for4
  simp only [ev_sif, ev_tBl, ev_e2, ev_B, ev_call, ev_cons, ev_var, List.getElem?_cons_zero, List.getElem?_cons_succ, Rs.bind_ok, ev_nil, List.length_cons, List.length_nil, Nat.reduceAdd, if_true, h1, h2, eb, nst, Rs.stm_ok, Bool.false_eq_true, if_false, ev_nx]
end
end
end Dl

set_option Elab.async false
set_option linter.all false
set_option autoImplicit false
set_option maxRecDepth 100000
set_option maxHeartbeats 4000000
/-! what is no web. -/
namespace Dl
noncomputable section
open PySem PySem.Spec L2
/-- no web, and of what size its text is -/
structure Odd (v : D) : Prop where
  no : ∀ M, F_is_web [v] M = .ok (.bl false) M
  pl : Pl v 4 5000
section
variable (M : Mem)
theorem drop1 (d : D) : dropM M d M = M := dropM_same rfl
theorem web_start (v : D) : startD 4 [v] = [some v, none, none, none] := rfl
theorem is_web_nt {v : D} (h : isiD [v, .ty "tuple"] M = .ok (.bl false) M) : F_is_web [v] M = .ok (.bl false) M := by
  unfold F_is_web defF
  rw [web_start]
  simp only [B_is_web, ev_seq, ev_sif, ev_bOr, ev_bNot, ev_tTru, ev_B, ev_cons, ev_var, ev_C, List.getElem?_cons_zero, Rs.bind_ok, ev_nil, h, tru_bl, ofO_some, Bool.not_false, if_true, Rs.stm_ok, ev_ret, dropM_same]
theorem is_web_len {ds : List D} (h : ds.length ≠ 2) : F_is_web [.tup ds] M = .ok (.bl false) M := by
  have h' : decide ((ds.length : Int) = 2) = false := decide_eq_false (by omega)
  unfold F_is_web defF
  rw [web_start]
  simp only [B_is_web, ev_seq, ev_sif, ev_bOr, ev_bNot, ev_tTru, ev_tBl, ev_e2, ev_B, ev_cons, ev_var, ev_C, List.getElem?_cons_zero, Rs.bind_ok, ev_nil, isi_tup, ev_lenT, ev_eqI, h', tru_bl, ofO_some, Bool.not_true, Bool.not_false, if_true, Bool.false_eq_true, if_false, Rs.stm_ok, ev_ret, dropM_same]
theorem is_web_cnt {a b : D} (h : F_is_count [a] M = .ok (.bl false) M) : F_is_web [.tup [a, b]] M = .ok (.bl false) M := by
  have i0 : ixD (.tup [a, b]) (.int 0) M = .ok a M := by rw [ev_ixT, atI0]; rfl
  have l2 : decide ((((0 + 1 + 1 : Nat)) : Int) = 2) = true := rfl
  have l2' : decide (((2 : Nat) : Int) = 2) = true := rfl
  unfold F_is_web defF
  rw [web_start]
  simp only [B_is_web, ev_seq, ev_sif, ev_bOr, ev_bNot, ev_tTru, ev_tBl, ev_e2, ev_B, ev_call, ev_cons, ev_var, ev_C, List.getElem?_cons_zero, Rs.bind_ok, ev_nil, isi_tup, ev_lenT, List.length_cons, List.length_nil, Nat.reduceAdd, ev_eqI, l2', i0, h, tru_bl, ofO_some, Bool.not_true, Bool.not_false, if_true, Bool.false_eq_true, if_false, Rs.stm_ok, ev_ret, dropM_same]
theorem is_web_lst {n : Nat} {b : D} (h : isiD [b, .ty "tuple"] M = .ok (.bl false) M) : F_is_web [.tup [.int n, b]] M = .ok (.bl false) M := by
  have i0 : ixD (.tup [.int n, b]) (.int 0) M = .ok (.int n) M := by rw [ev_ixT, atI0]; rfl
  have i1 : ixD (.tup [.int n, b]) (.int 1) M = .ok b M := by rw [ev_ixT, atI1]; rfl
  have l2' : decide (((2 : Nat) : Int) = 2) = true := rfl
  have hc : F_is_count [.int (n : Int)] M = .ok (.bl true) M := by rw [eq_is_count]; simp
  unfold F_is_web defF
  rw [web_start]
  simp only [B_is_web, ev_seq, ev_sif, ev_bOr, ev_bNot, ev_tTru, ev_tBl, ev_e2, ev_B, ev_call, ev_cons, ev_var, ev_C, List.getElem?_cons_zero, Rs.bind_ok, ev_nil, isi_tup, ev_lenT, List.length_cons, List.length_nil, Nat.reduceAdd, ev_eqI, l2', i0, i1, hc, h, tru_bl, ofO_some, Bool.not_true, Bool.not_false, if_true, Bool.false_eq_true, if_false, Rs.stm_ok, ev_ret, dropM_same]
/-- ties, and one that is none -/
theorem is_web_tie {n : Nat} {l : List D} (f : D → Bool) (hf : ∀ x ∈ l, F_is_tie [.int n, x] M = .ok (.bl (f x)) M) (hl : l.length ≤ 1000) (hb : l.all f = false) : F_is_web [.tup [.int n, .tup l]] M = .ok (.bl false) M := by
  have i0 : ixD (.tup [.int n, .tup l]) (.int 0) M = .ok (.int n) M := by rw [ev_ixT, atI0]; rfl
  have i1 : ixD (.tup [.int n, .tup l]) (.int 1) M = .ok (.tup l) M := by rw [ev_ixT, atI1]; rfl
  have l2' : decide (((2 : Nat) : Int) = 2) = true := rfl
  have hc : F_is_count [.int (n : Int)] M = .ok (.bl true) M := by rw [eq_is_count]; simp
  have c : compL (gN 1) tYes' (eCall 2 F_is_tie (aCons (e2 ixD (eVar 0) (eC (.int 0))) (aCons (eVar 1) aNil))) [some (.tup [.int n, .tup l]), none, none, none] l M [] = .ok (l.map fun x => .bl (f x)) M := by
    have := compL_mapG (M := M) (gm := gN 1) (tt := tYes') (el := eCall 2 F_is_tie (aCons (e2 ixD (eVar 0) (eC (.int 0))) (aCons (eVar 1) aNil))) (δ := [some (.tup [.int n, .tup l]), none, none, none]) (fun x => x) (fun x => .bl (f x)) (l := l) (acc := []) (by simp; omega) (fun x hx => ⟨_, rfl, rfl, by
      simp only [ev_call, ev_cons, ev_var, ev_e2, ev_C, i0, List.set_cons_succ, List.set_cons_zero, List.getElem?_cons_zero, List.getElem?_cons_succ, Rs.bind_ok, ev_nil, List.length_cons, List.length_nil, Nat.reduceAdd, if_true, hf x hx]⟩)
    rw [List.map_id'] at this
    rw [this, List.nil_append]
  have m := mkL_true M (l.map fun x => D.bl (f x)) (by rw [List.length_map, sizeLine_eq]; omega)
  have a := all_mapB M f l
  rw [hb] at a
  unfold F_is_web defF
  rw [web_start]
  simp only [B_is_web, ev_seq, ev_sif, ev_bOr, ev_bNot, ev_tTru, ev_tBl, ev_e2, ev_B, ev_call, ev_cons, ev_var, ev_C, List.getElem?_cons_zero, Rs.bind_ok, ev_nil, isi_tup, ev_lenT, List.length_cons, List.length_nil, Nat.reduceAdd, ev_eqI, l2', i0, i1, hc, tru_bl, ofO_some, Bool.not_true, Bool.not_false, if_true, Bool.false_eq_true, if_false, Rs.stm_ok, ev_nx, ev_lc, ev_aOf, itT, wipeD, List.set_cons_succ, List.set_cons_zero, c, m, a, ev_ret, dropM_same]
theorem is_tie_nt {n : Nat} {v : D} (h : isiD [v, .ty "tuple"] M = .ok (.bl false) M) : F_is_tie [.int n, v] M = .ok (.bl false) M := by
  have hs : startD 3 [.int n, v] = [some (.int n), some v, none] := rfl
  unfold F_is_tie defF
  rw [hs]
  simp only [B_is_tie, ev_seq, ev_sif, ev_bOr, ev_bNot, ev_tTru, ev_B, ev_cons, ev_var, ev_C, List.getElem?_cons_zero, List.getElem?_cons_succ, Rs.bind_ok, ev_nil, h, tru_bl, ofO_some, Bool.not_false, if_true, Rs.stm_ok, ev_ret, dropM_same]
theorem is_tie_len {n : Nat} {ds : List D} (h : ds.length ≠ 2) : F_is_tie [.int n, .tup ds] M = .ok (.bl false) M := by
  have hs : startD 3 [.int n, .tup ds] = [some (.int n), some (.tup ds), none] := rfl
  have h' : decide ((ds.length : Int) = 2) = false := decide_eq_false (by omega)
  unfold F_is_tie defF
  rw [hs]
  simp only [B_is_tie, ev_seq, ev_sif, ev_bOr, ev_bNot, ev_tTru, ev_tBl, ev_e2, ev_B, ev_cons, ev_var, ev_C, List.getElem?_cons_zero, List.getElem?_cons_succ, Rs.bind_ok, ev_nil, isi_tup, ev_lenT, ev_eqI, h', tru_bl, ofO_some, Bool.not_true, Bool.not_false, if_true, Bool.false_eq_true, if_false, Rs.stm_ok, ev_ret, dropM_same]
/-- a pair that is no tie -/
theorem is_tie_pair {n a b : Nat} (h : ¬ (a ≤ b ∧ b < n)) : F_is_tie [.int n, .tup [.int a, .int b]] M = .ok (.bl false) M := by
  have hs : startD 3 [.int n, .tup [.int a, .int b]] = [some (.int n), some (.tup [.int a, .int b]), none] := rfl
  have l2' : decide (((2 : Nat) : Int) = 2) = true := rfl
  have pa := eq_is_place M n a
  have pb := eq_is_place M n b
  have c : compL (gN 2) tYes' (eCall 2 F_is_place (aCons (eVar 0) (aCons (eVar 2) aNil))) [some (.int n), some (.tup [.int a, .int b]), none] [.int a, .int b] M [] = .ok [.bl (decide (0 ≤ (a : Int) ∧ (a : Int) < n)), .bl (decide (0 ≤ (b : Int) ∧ (b : Int) < n))] M := by
    have := compL_mapG (M := M) (gm := gN 2) (tt := tYes') (el := eCall 2 F_is_place (aCons (eVar 0) (aCons (eVar 2) aNil))) (δ := [some (.int n), some (.tup [.int a, .int b]), none]) (fun x : Int => D.int x) (fun x : Int => .bl (decide (0 ≤ x ∧ x < n))) (l := [(a : Int), (b : Int)]) (acc := []) (by simp) (fun x hx => ⟨_, rfl, rfl, by
      simp only [ev_call, ev_cons, ev_var, List.set_cons_succ, List.set_cons_zero, List.getElem?_cons_zero, List.getElem?_cons_succ, Rs.bind_ok, ev_nil, List.length_cons, List.length_nil, Nat.reduceAdd, if_true, eq_is_place]⟩)
    exact this
  have m := mkL_true M [D.bl (decide (0 ≤ (a : Int) ∧ (a : Int) < n)), .bl (decide (0 ≤ (b : Int) ∧ (b : Int) < n))] (by simp [sizeLine_eq])
  have al : allD [.lst [D.bl (decide (0 ≤ (a : Int) ∧ (a : Int) < n)), .bl (decide (0 ≤ (b : Int) ∧ (b : Int) < n))]] M = .ok (.bl (decide (0 ≤ (a : Int) ∧ (a : Int) < n) && decide (0 ≤ (b : Int) ∧ (b : Int) < n))) M := by
    have := all_mapB M (fun x : Int => decide (0 ≤ x ∧ x < n)) [(a : Int), (b : Int)]
    simp only [List.all_cons, List.all_nil, Bool.and_true] at this
    exact this
  have i0 : ixD (.tup [.int a, .int b]) (.int 0) M = .ok (.int a) M := by rw [ev_ixT, atI0]; rfl
  have i1 : ixD (.tup [.int a, .int b]) (.int 1) M = .ok (.int b) M := by rw [ev_ixT, atI1]; rfl
  unfold F_is_tie defF
  rw [hs]
  cases hq : (decide (0 ≤ (a : Int) ∧ (a : Int) < n) && decide (0 ≤ (b : Int) ∧ (b : Int) < n)) with
  | false =>
    rw [hq] at al
    simp only [B_is_tie, ev_seq, ev_sif, ev_bOr, ev_bNot, ev_tTru, ev_tBl, ev_e2, ev_B, ev_cons, ev_var, ev_C, List.getElem?_cons_zero, List.getElem?_cons_succ, Rs.bind_ok, ev_nil, isi_tup, ev_lenT, List.length_cons, List.length_nil, Nat.reduceAdd, ev_eqI, l2', tru_bl, ofO_some, Bool.not_true, Bool.not_false, if_true, Bool.false_eq_true, if_false, Rs.stm_ok, ev_ret, dropM_same, ev_lc, ev_aOf, itT, wipeD, List.set_cons_succ, List.set_cons_zero, c, m, al]
  | true =>
    rw [hq] at al
    have hle : decide ((a : Int) ≤ (b : Int)) = false := by
      simp only [Bool.and_eq_true, decide_eq_true_eq] at hq
      refine decide_eq_false fun z => h ⟨by omega, by omega⟩
    simp only [B_is_tie, ev_seq, ev_sif, ev_bOr, ev_bNot, ev_tTru, ev_tBl, ev_e2, ev_B, ev_cons, ev_var, ev_C, List.getElem?_cons_zero, List.getElem?_cons_succ, Rs.bind_ok, ev_nil, isi_tup, ev_lenT, List.length_cons, List.length_nil, Nat.reduceAdd, ev_eqI, l2', tru_bl, ofO_some, Bool.not_true, Bool.not_false, if_true, Bool.false_eq_true, if_false, Rs.stm_ok, ev_nx, ev_ret, dropM_same, ev_lc, ev_aOf, itT, wipeD, List.set_cons_succ, List.set_cons_zero, c, m, al, i0, i1, ev_le, hle]
end
/-- ties with one more item that is none -/
theorem odd_tie {n : Nat} {ts : List Tie} (w : BWeb n ts) {d : D} (hd : ∀ M, F_is_tie [.int n, d] M = .ok (.bl false) M) (hp : Pl d 2 10) : Odd (.tup [.int n, .tup (ts.map tieD ++ [d])]) := by
  have hl := w.hl
  have hn := w.hn
  refine ⟨fun M => ?_, ?_⟩
  · classical
    refine is_web_tie M (fun x => decide (F_is_tie [.int n, x] M = .ok (.bl true) M)) (fun x hx => ?_) (by simp; omega) ?_
    · rcases List.mem_append.mp hx with hx | hx
      · obtain ⟨t, ht, rfl⟩ := List.mem_map.mp hx
        have e := eq_is_tie M (w.w.ok t ht)
        rw [decide_eq_true e]
        exact e
      · simp only [List.mem_singleton] at hx
        subst hx
        have e := hd M
        rw [decide_eq_false (fun z => by rw [e] at z; cases z)]
        exact e
    · rw [List.all_append, List.all_cons, decide_eq_false (fun z => by rw [hd M] at z; cases z)]
      simp
  · have h1 : PlA (ts.map tieD ++ [d]) 2 (11 * (ts.map tieD ++ [d]).length) := PlA.of fun x hx => by
      rcases List.mem_append.mp hx with hx | hx
      · obtain ⟨t, ht, rfl⟩ := List.mem_map.mp hx
        have := w.w.ok t ht
        exact (pl_pair (a := t.1) (b := t.2) (by omega) (by omega)).mono (by omega) (by omega)
      · simp only [List.mem_singleton] at hx
        subst hx
        exact hp
    refine .tup ((PlA.cons (w1 := 0) (.nat (by omega)) (PlA.cons (w2 := 0) (.tup h1) .nil)).mono (Nat.le_refl _) ?_)
    simp
    omega
end
end Dl

set_option Elab.async false
set_option linter.all false
set_option autoImplicit false
set_option maxRecDepth 100000
set_option maxHeartbeats 4000000
/-! the odd webs; what is refused. -/
namespace Dl
noncomputable section
open PySem PySem.Spec L2
def oddL (n : Nat) (ts : List Tie) : List D := [.non, .lst [.int n, .tup (ts.map tieD)], .tup [.int n, .lst (ts.map tieD)], .tup [.int n, .tup (ts.map tieD), .tup []], .tup [.int (-1), .tup []], .tup [.bl true, .tup []],
  .tup [.int n, .tup (ts.map tieD ++ [.tup [.int 0, .int n]])], .str "web",
  .tup [.int n, .tup (ts.map tieD ++ [.tup [.int 1, .int 0]])], .tup [.int n, .tup (ts.map tieD ++ [.tup [.int 0]])], .tup [.int ((n : Int) + 2), .tup [.tup [.int 0, .int 1], .tup [.int 0, .int 1]]], .tup [.int n, .tup (ts.map tieD ++ [.lst [.int 0, .int 0]])], .tup [.int n]]
theorem pla_web {n : Nat} {ts : List Tie} (w : BWeb n ts) : PlA (ts.map tieD) 1 3000 :=
  pl_ties (fun t => t) (fun t ht => by have := w.w.ok t ht; have := w.hn; omega) (by have := w.hl; omega)
theorem odd_all {n : Nat} {ts : List Tie} (w : BWeb n ts) : ∀ v ∈ oddL n ts, Odd v := by
  have hn := w.hn
  have pt := pla_web w
  have pn : ∀ {k w}, Pl (.int (n : Int)) k w := .nat (by omega)
  have two : PlA [.int n, .tup (ts.map tieD)] 2 3002 := (PlA.cons (w1 := 0) pn (PlA.cons (w2 := 0) (.tup pt) .nil)).mono (by omega) (by omega)
  intro v hv
  simp only [oddL, List.mem_cons, List.not_mem_nil, or_false] at hv
  rcases hv with rfl | rfl | rfl | rfl | rfl | rfl | rfl | rfl | rfl | rfl | rfl | rfl | rfl
  · exact ⟨fun M => is_web_nt M (isi_non M), .non⟩
  · exact ⟨fun M => is_web_nt M (isi_lst M _), (Pl.lst two).mono (by omega) (by omega)⟩
  · exact ⟨fun M => is_web_lst M (isi_lst M _), .tup ((PlA.cons (k := 3) (w1 := 0) pn (PlA.cons (w1 := 3000) (w2 := 0) ((Pl.lst pt).mono (by omega) (Nat.le_refl _)) .nil)).mono (by omega) (by omega))⟩
  · exact ⟨fun M => is_web_len M (by simp), .tup ((PlA.cons (k := 3) (w1 := 0) pn (PlA.cons (w1 := 3000) ((Pl.tup pt).mono (by omega) (Nat.le_refl _)) (PlA.cons (w1 := 0) (w2 := 0) (.tup .nil) .nil))).mono (by omega) (by omega))⟩
  · exact ⟨fun M => is_web_cnt M (eq_count_itm M .neg), .tup ((PlA.cons (w1 := 0) (.int (by decide)) (PlA.cons (w1 := 0) (w2 := 0) (.tup .nil) .nil)).mono (Nat.le_refl _) (by omega))⟩
  · exact ⟨fun M => is_web_cnt M (eq_count_itm M .tr), .tup ((PlA.cons (w1 := 0) .bl (PlA.cons (w1 := 0) (w2 := 0) (.tup .nil) .nil)).mono (Nat.le_refl _) (by omega))⟩
  · exact odd_tie w (fun M => is_tie_pair M (n := n) (a := 0) (b := n) (by omega)) ((pl_pair (a := 0) (b := n) (by omega) (by omega)).mono (by omega) (by omega))
  · exact ⟨fun M => is_web_nt M (by simp [tyD, tyAsked, isiB]), .str (by decide +kernel) (by decide +kernel) (by decide +kernel)⟩
  · exact odd_tie w (fun M => is_tie_pair M (n := n) (a := 1) (b := 0) (by omega)) ((pl_pair (a := 1) (b := 0) (by omega) (by omega)).mono (by omega) (by omega))
  · exact odd_tie w (fun M => is_tie_len M (by simp)) (Itm.one.pl.mono (by omega) (by omega))
  · refine ⟨fun M => ?_, ?_⟩
    · have e : (n : Int) + 2 = ((n + 2 : Nat) : Int) := by omega
      rw [e]
      have t1 : F_is_tie [.int ((n + 2 : Nat) : Int), tieD (0, 1)] M = .ok (.bl true) M := eq_is_tie M (by simp)
      have t1' : F_is_tie [.int ((n + 2 : Nat) : Int), .tup [.int 0, .int 1]] M = .ok (.bl true) M := t1
      generalize n + 2 = m at t1'
      have i0 : ixD (.tup [.int m, .tup [.tup [.int 0, .int 1], .tup [.int 0, .int 1]]]) (.int 0) M = .ok (.int m) M := by rw [ev_ixT, atI0]; rfl
      have i1 : ixD (.tup [.int m, .tup [.tup [.int 0, .int 1], .tup [.int 0, .int 1]]]) (.int 1) M = .ok (.tup [.tup [.int 0, .int 1], .tup [.int 0, .int 1]]) M := by rw [ev_ixT, atI1]; rfl
      have l2' : decide (((2 : Nat) : Int) = 2) = true := rfl
      have hc : F_is_count [.int (m : Int)] M = .ok (.bl true) M := by rw [eq_is_count]; simp
      have c : compL (gN 1) tYes' (eCall 2 F_is_tie (aCons (e2 ixD (eVar 0) (eC (.int 0))) (aCons (eVar 1) aNil))) [some (.tup [.int m, .tup [.tup [.int 0, .int 1], .tup [.int 0, .int 1]]]), none, none, none] [.tup [.int 0, .int 1], .tup [.int 0, .int 1]] M [] = .ok [.bl true, .bl true] M := by
        have := compL_mapG (M := M) (gm := gN 1) (tt := tYes') (el := eCall 2 F_is_tie (aCons (e2 ixD (eVar 0) (eC (.int 0))) (aCons (eVar 1) aNil))) (δ := [some (.tup [.int m, .tup [.tup [.int 0, .int 1], .tup [.int 0, .int 1]]]), none, none, none]) tieD (fun _ => .bl true) (l := [(0, 1), (0, 1)]) (acc := []) (by simp) (fun x hx => ⟨[some (.tup [.int m, .tup [.tup [.int 0, .int 1], .tup [.int 0, .int 1]]]), some (tieD x), none, none], rfl, rfl, by
          have hx' : x = (0, 1) := by simpa using hx
          subst hx'
          have t1'' : F_is_tie [.int (m : Int), tieD (0, 1)] M = .ok (.bl true) M := t1'
          simp only [ev_call, ev_cons, ev_var, ev_e2, ev_C, i0, List.getElem?_cons_zero, List.getElem?_cons_succ, Rs.bind_ok, ev_nil, List.length_cons, List.length_nil, Nat.reduceAdd, if_true, t1'']⟩)
        exact this
      have m1 := mkL_true M [D.bl true, .bl true] (by simp [sizeLine_eq])
      have a1 : allD [.lst [.bl true, .bl true]] M = .ok (.bl true) M := rfl
      have sl : sliceD true (.tup [.tup [.int 0, .int 1], .tup [.int 0, .int 1]]) (some 1) none M = .ok (.tup [.tup [.int 0, .int 1]]) M := by
        show Rs.ok (D.tup (cutD [.tup [.int 0, .int 1], .tup [.int 0, .int 1]] (some 1) none)) M = _
        rw [cut_from]; rfl
      have zz : zipA [.tup [.tup [.int 0, .int 1], .tup [.int 0, .int 1]], .tup [.tup [.int 0, .int 1]]] M = some [.tup [.tup [.int 0, .int 1], .tup [.int 0, .int 1]]] := rfl
      have lt : ltD (.tup [.int 0, .int 1]) (.tup [.int 0, .int 1]) M = .ok (.bl false) M := by
        have := ev_ltT M (0, 1) (0, 1)
        rw [decide_eq_false (tlt_irrefl)] at this
        exact this
      have c2 : compL (gTupD (gsCons (gN 2) (gsCons (gN 3) gsNil))) tYes' (e2 ltD (eVar 2) (eVar 3)) [some (.tup [.int m, .tup [.tup [.int 0, .int 1], .tup [.int 0, .int 1]]]), none, none, none] [.tup [.tup [.int 0, .int 1], .tup [.int 0, .int 1]]] M [] = .ok [.bl false] M := by
        have := compL_mapG (M := M) (gm := gTupD (gsCons (gN 2) (gsCons (gN 3) gsNil))) (tt := tYes') (el := e2 ltD (eVar 2) (eVar 3)) (δ := [some (.tup [.int m, .tup [.tup [.int 0, .int 1], .tup [.int 0, .int 1]]]), none, none, none]) (fun _ : Unit => D.tup [.tup [.int 0, .int 1], .tup [.int 0, .int 1]]) (fun _ => .bl false) (l := [()]) (acc := []) (by simp) (fun x hx => ⟨[some (.tup [.int m, .tup [.tup [.int 0, .int 1], .tup [.int 0, .int 1]]]), none, some (.tup [.int 0, .int 1]), some (.tup [.int 0, .int 1])], rfl, rfl, by
          simp only [ev_e2, ev_var, List.getElem?_cons_zero, List.getElem?_cons_succ, Rs.bind_ok, lt]⟩)
        exact this
      have m2 := mkL_true M [D.bl false] (by simp [sizeLine_eq])
      have a2 : allD [.lst [.bl false]] M = .ok (.bl false) M := rfl
      unfold F_is_web defF
      rw [web_start]
      simp only [B_is_web, ev_seq, ev_sif, ev_bOr, ev_bNot, ev_tTru, ev_tBl, ev_e2, ev_B, ev_call, ev_cons, ev_var, ev_C, List.getElem?_cons_zero, Rs.bind_ok, ev_nil, isi_tup, ev_lenT, List.length_cons, List.length_nil, Nat.reduceAdd, ev_eqI, l2', i0, i1, hc, tru_bl, ofO_some, Bool.not_true, Bool.not_false, if_true, Bool.false_eq_true, if_false, Rs.stm_ok, ev_nx, ev_lc, ev_aOf, ev_aArg, ev_slice, ev_oSome, ev_oNo, itT, wipeD, List.set_cons_succ, List.set_cons_zero, c, m1, a1, sl, zz, c2, m2, a2, ev_ret, dropM_same]
    · exact .tup ((PlA.cons (w1 := 0) (.int (by omega)) (PlA.cons (w2 := 0) (.tup (PlA.cons (pl_pair (a := 0) (b := 1) (by omega) (by omega)) (PlA.cons (pl_pair (a := 0) (b := 1) (by omega) (by omega)) (PlA.nil (w := 0)))))  .nil)).mono (by omega) (by omega))
  · exact odd_tie w (fun M => is_tie_nt M (isi_lst M _)) ((Pl.lst (PlA.cons (w1 := 0) (.int (by decide)) (PlA.cons (w1 := 0) (w2 := 0) (k := 1) (.int (by decide)) .nil))).mono (by omega) (by omega))
  · exact ⟨fun M => is_web_len M (by simp), .tup ((PlA.cons (w1 := 0) (w2 := 0) pn .nil).mono (Nat.le_refl _) (by omega))⟩
section
variable (M : Mem)
theorem eq_no_webs {n : Nat} {ts : List Tie} (w : BWeb n ts) : F__law_no_webs [webD n ts] M = .ok (.lst (oddL n ts)) M := by
  have hl := w.hl
  have hs : startD 4 [webD n ts] = [some (webD n ts), none, none, none] := rfl
  have as : gTupD (gsCons (gN 2) (gsCons (gN 3) gsNil)) (webD n ts) [some (webD n ts), none, none, none] M = .ok [some (webD n ts), none, some (.int n), some (.tup (ts.map tieD))] M := rfl
  have l1 : listD true [webD n ts] M = .ok (.lst [.int n, .tup (ts.map tieD)]) M := mkL_true M _ (by simp [sizeLine_eq])
  have l2 : listD true [.tup (ts.map tieD)] M = .ok (.lst (ts.map tieD)) M := mkL_true M _ (by simp [sizeLine_eq]; omega)
  have ap : ∀ d, addD true (.tup (ts.map tieD)) (.tup [d]) M = .ok (.tup (ts.map tieD ++ [d])) M := fun d => by
    show (if sz ((ts.map tieD).length + [d].length) then Rs.ok (D.tup (ts.map tieD ++ [d])) M else .no) = _
    rw [if_pos (sz_of (by simp; omega))]
  have m2 : mkL true [D.int 0, .int 0] M = .ok (.lst [D.int 0, .int 0]) M := mkL_true M _ (by simp [sizeLine_eq])
  have neg : negD (.int 1) M = .ok (.int (-1)) M := rfl
  have z : ∀ k, k ≤ 20 → sz k = true := fun k hk => sz_of (by omega)
  have L8 : ∀ l : List D, l.length ≤ 20 → mkL true l M = .ok (.lst l) M := fun l h => mkL_true M _ (by rw [sizeLine_eq]; omega)
  have al : ∀ a b : List D, a.length + b.length ≤ 20 → addD true (.lst a) (.lst b) M = .ok (.lst (a ++ b)) M := fun a b h => by
    show mkL true (a ++ b) M = _
    exact L8 _ (by rw [List.length_append]; omega)
  unfold F__law_no_webs defF
  rw [hs]
  simp only [B__law_no_webs, ev_seq, ev_asg, ev_var, List.getElem?_cons_zero, List.getElem?_cons_succ, Rs.stm_ok, as, nxO_ok, ev_lst, ev_cons, ev_C, ev_B, ev_nil, Rs.bind_ok, l1, l2, ev_tup, List.length_cons, List.length_nil, Nat.reduceAdd, z, Nat.reduceLeDiff, if_true, ev_e1, neg, ev_e2, ap, ev_gN, List.set_cons_succ, List.set_cons_zero, ev_ret, ev_addI, m2]
  rw [L8 _ (by simp)]
  simp only [Rs.stm_ok, ev_gN, nxO_ok, List.set_cons_succ, List.set_cons_zero, List.getElem?_cons_zero, List.getElem?_cons_succ, Rs.bind_ok, ev_tup, ev_cons, ev_e2, ev_var, ev_nil, ev_C, ap, ev_addI, m2, List.length_cons, List.length_nil, Nat.reduceAdd, z, Nat.reduceLeDiff, if_true]
  rw [L8 _ (by simp)]
  simp only [Rs.bind_ok]
  rw [al _ _ (by simp)]
  simp only [Rs.stm_ok, dropM_same]
  rfl
end
end
end Dl

set_option Elab.async false
set_option linter.all false
set_option autoImplicit false
set_option maxRecDepth 100000
set_option maxHeartbeats 4000000
/-! refused right. -/
namespace Dl
noncomputable section
open PySem PySem.Spec L2
section
variable (M : Mem)
theorem need_web_no {v : D} (h : F_is_web [v] M = .ok (.bl false) M) : F_need_web [v] M = .ex ⟨2, [("web", v)]⟩ M := by
  have hs : startD 1 [v] = [some v] := rfl
  unfold F_need_web defF
  rw [hs]
  simp only [B_need_web, ev_sif, ev_bNot, ev_tTru, ev_call, ev_cons, ev_var, List.getElem?_cons_zero, Rs.bind_ok, ev_nil, List.length_cons, List.length_nil, Nat.reduceAdd, if_true, h, tru_bl, ofO_some, Bool.not_false, Rs.stm_ok, sRaise, List.zip_cons_cons, List.zip_nil_right, List.reverse_cons, List.reverse_nil, List.nil_append]
theorem need_hue_no {v : D} (h : F_is_web [v] M = .ok (.bl false) M) : F_need_hue_web [v] M = .ex ⟨2, [("web", v)]⟩ M := by
  have hs : startD 3 [v] = [some v, none, none] := rfl
  have e := need_web_no M h
  unfold F_need_hue_web defF
  rw [hs]
  simp only [B_need_hue_web, ev_seq, ev_expr, ev_call, ev_cons, ev_var, List.getElem?_cons_zero, Rs.bind_ok, ev_nil, List.length_cons, List.length_nil, Nat.reduceAdd, if_true, e]
  rfl
/-- a web with loops -/
theorem hue_loop (x0 : Option D) : ∀ (l : List Tie) (t : Tie), (l.filter fun t => decide (t.1 = t.2)).head? = some t → ∀ y1 y2 : Option D, ∃ δ' : Loc, forL (gTupD (gsCons (gN 1) (gsCons (gN 2) gsNil))) B_need_hue_web_for1 (l.map tieD) [x0, y1, y2] M = .ex ⟨4, [("witness", .int t.1), ("promise", .str "bare")]⟩ δ' M
  | [], t, h, y1, y2 => by simp at h
  | u :: l, t, h, y1, y2 => by
    have eg : gTupD (gsCons (gN 1) (gsCons (gN 2) gsNil)) (tieD u) [x0, y1, y2] M = .ok [x0, some (.int u.1), some (.int u.2)] M := rfl
    by_cases q : u.1 = u.2
    · rw [List.filter_cons_of_pos (by simpa using q)] at h
      have : u = t := by simpa using h
      subst this
      have hq : decide ((u.1 : Int) = (u.2 : Int)) = true := by rw [q]; simp
      have eb : B_need_hue_web_for1 [x0, some (.int u.1), some (.int u.2)] M = .ex ⟨4, [("witness", .int u.1), ("promise", .str "bare")]⟩ [x0, some (.int u.1), some (.int u.2)] M := by
        simp only [B_need_hue_web_for1, ev_sif, ev_tBl, ev_e2, ev_var, List.getElem?_cons_zero, List.getElem?_cons_succ, Rs.bind_ok, ev_eqI, Bool.false_eq_true, if_false, hq, Rs.stm_ok, if_true, sRaise, ev_cons, ev_C, ev_nil, List.length_cons, List.length_nil, Nat.reduceAdd, List.zip_cons_cons, List.zip_nil_right, List.reverse_cons, List.reverse_nil, List.nil_append, List.cons_append]
      refine ⟨[x0, some (.int u.1), some (.int u.2)], ?_⟩
      rw [List.map_cons, forL, eg]
      simp only [eb]
    · rw [List.filter_cons_of_neg (by simpa using q)] at h
      obtain ⟨δ', ih⟩ := hue_loop x0 l t h (some (.int u.1)) (some (.int u.2))
      have hq : decide ((u.1 : Int) = (u.2 : Int)) = false := decide_eq_false (by omega)
      have eb : B_need_hue_web_for1 [x0, some (.int u.1), some (.int u.2)] M = .nx [x0, some (.int u.1), some (.int u.2)] M := by
        simp only [B_need_hue_web_for1, ev_sif, ev_tBl, ev_e2, ev_var, List.getElem?_cons_zero, List.getElem?_cons_succ, Rs.bind_ok, ev_eqI, Bool.false_eq_true, if_false, hq, Rs.stm_ok, ev_nx]
      refine ⟨δ', ?_⟩
      rw [List.map_cons, forL, eg]
      simp only [eb]
      exact ih
theorem need_hue_loop {n : Nat} {ts : List Tie} (w : Web n ts) (hl : ts.length ≤ 1000) {t : Tie} (h : (ts.filter fun t => decide (t.1 = t.2)).head? = some t) : F_need_hue_web [webD n ts] M = .ex ⟨4, [("witness", .int t.1), ("promise", .str "bare")]⟩ M := by
  have hs : startD 3 [webD n ts] = [some (webD n ts), none, none] := rfl
  have e := eq_need_web M w hl
  obtain ⟨δ', el⟩ := hue_loop M (some (webD n ts)) ts t h none none
  unfold F_need_hue_web defF
  rw [hs]
  simp only [B_need_hue_web, ev_seq, ev_expr, ev_call, ev_cons, ev_var, List.getElem?_cons_zero, Rs.bind_ok, ev_nil, List.length_cons, List.length_nil, Nat.reduceAdd, if_true, e, Rs.stm_ok, ev_for, ev_aOf, ev_e2, ev_C, ix_web1, itT, ofO_some, el]
/-- all four calls go by need_hue_web first -/
def Refuses (k : Nat) : Prop := ∀ (M : Mem) (v : D) (x : Exn), F_need_hue_web [v] M = .ex x M → ∃ F, TLam k = some (1, F) ∧ F [v] M = .ex x M
theorem refuses0 : Refuses 0 := fun M v x h => ⟨LF_0, rfl, by
  have hs : startD 2 [v, .non] = [some v, some .non] := rfl
  have e : F_are_hues [v, .non] M = .ex x M := by
    unfold F_are_hues defF
    rw [hs]
    simp only [B_are_hues, ev_seq, ev_expr, ev_call, ev_cons, ev_var, List.getElem?_cons_zero, Rs.bind_ok, ev_nil, List.length_cons, List.length_nil, Nat.reduceAdd, if_true, h]
    rfl
  show LB_0 [some v] M = _
  simp only [LB_0, ev_call, ev_cons, ev_var, ev_C, List.getElem?_cons_zero, Rs.bind_ok, ev_nil, List.length_cons, List.length_nil, Nat.reduceAdd, if_true, e]⟩
theorem refuses1 : Refuses 1 := fun M v x h => ⟨LF_1, rfl, by
  have hs : startD 2 [v, .non] = [some v, some .non] := rfl
  have e : F_is_direction [v, .non] M = .ex x M := by
    unfold F_is_direction defF
    rw [hs]
    simp only [B_is_direction, ev_seq, ev_expr, ev_call, ev_cons, ev_var, List.getElem?_cons_zero, Rs.bind_ok, ev_nil, List.length_cons, List.length_nil, Nat.reduceAdd, if_true, h]
    rfl
  show LB_1 [some v] M = _
  simp only [LB_1, ev_call, ev_cons, ev_var, ev_C, List.getElem?_cons_zero, Rs.bind_ok, ev_nil, List.length_cons, List.length_nil, Nat.reduceAdd, if_true, e]⟩
theorem refuses2 : Refuses 2 := fun M v x h => ⟨LF_2, rfl, by
  have hs : startD 2 [v, .non] = [some v, some .non] := rfl
  have hs4 : startD 4 [v, .non, .non] = [some v, some .non, some .non, none] := rfl
  have e1 : F_need_direction [v, .non] M = .ex x M := by
    unfold F_need_direction defF
    rw [hs]
    simp only [B_need_direction, ev_seq, ev_expr, ev_call, ev_cons, ev_var, List.getElem?_cons_zero, Rs.bind_ok, ev_nil, List.length_cons, List.length_nil, Nat.reduceAdd, if_true, h]
    rfl
  have e : F_is_way [v, .non, .non] M = .ex x M := by
    unfold F_is_way defF
    rw [hs4]
    simp only [B_is_way, ev_seq, ev_expr, ev_call, ev_cons, ev_var, List.getElem?_cons_zero, List.getElem?_cons_succ, Rs.bind_ok, ev_nil, List.length_cons, List.length_nil, Nat.reduceAdd, if_true, e1]
    rfl
  show LB_2 [some v] M = _
  simp only [LB_2, ev_call, ev_cons, ev_var, ev_C, List.getElem?_cons_zero, Rs.bind_ok, ev_nil, List.length_cons, List.length_nil, Nat.reduceAdd, if_true, e]⟩
theorem refuses3 : Refuses 3 := fun M v x h => ⟨LF_3, rfl, by
  have hs : startD 2 [v, .non] = [some v, some .non] := rfl
  have e : F_direction_by [v, .non] M = .ex x M := by
    unfold F_direction_by defF
    rw [hs]
    simp only [B_direction_by, ev_seq, ev_expr, ev_call, ev_cons, ev_var, List.getElem?_cons_zero, Rs.bind_ok, ev_nil, List.length_cons, List.length_nil, Nat.reduceAdd, if_true, h]
    rfl
  show LB_3 [some v] M = _
  simp only [LB_3, ev_call, ev_cons, ev_var, ev_C, List.getElem?_cons_zero, Rs.bind_ok, ev_nil, List.length_cons, List.length_nil, Nat.reduceAdd, if_true, e]⟩
/-- one odd web -/
theorem odd_body {k : Nat} (R : Refuses k) {v : D} (o : Odd v) (x0 x1 x4 x5 x6 x7 x8 x9 x10 : Option D) : B__law_refused_right_for1 [x0, x1, some (.lam k), some v, x4, x5, x6, x7, x8, x9, x10] M = .nx [x0, x1, some (.lam k), some v, x4, x5, x6, x7, x8, x9, x10] M := by
  obtain ⟨F, hF, e⟩ := R M v _ (need_hue_no M (o.no M))
  obtain ⟨t, et⟩ := ev_reprP (Pl.tup (ds := [.str "BadWeb", v]) (PlA.cons (w1 := 10) (.str (by decide +kernel) (by decide +kernel) (by decide +kernel)) (PlA.cons (w2 := 0) o.pl .nil))) (by omega) (by omega)
  have ex : eCallX 2 (fun _ => none) TLam (aCons (eVar 3) aNil) [x0, x1, some (.lam k), some v, x4, x5, x6, x7, x8, x9, x10] M = .ex ⟨2, [("web", v)]⟩ M := by
    unfold eCallX
    simp only [List.getElem?_cons_zero, List.getElem?_cons_succ, hF, ev_call, ev_cons, ev_var, Rs.bind_ok, ev_nil, List.length_cons, List.length_nil, Nat.reduceAdd, if_true, e]
  simp only [B__law_refused_right_for1, ev_sif, ev_tBl, ev_e2, ev_B, ev_cons, ev_met, ex, met_web, Rs.bind_ok, ev_nil, et, ev_tup, ev_C, ev_var, List.getElem?_cons_zero, List.getElem?_cons_succ, List.length_cons, List.length_nil, Nat.reduceAdd, sz_of (show 2 ≤ 1000000 by omega), if_true, nst, Rs.stm_ok, Bool.false_eq_true, if_false, ev_nx]
theorem odd_loop {k : Nat} (R : Refuses k) (x0 x1 x4 x5 x6 x7 x8 x9 x10 : Option D) : ∀ (l : List D), (∀ v ∈ l, Odd v) → ∀ x3 : Option D, ∃ y3 : Option D, forL (gN 3) B__law_refused_right_for1 l [x0, x1, some (.lam k), x3, x4, x5, x6, x7, x8, x9, x10] M = .nx [x0, x1, some (.lam k), y3, x4, x5, x6, x7, x8, x9, x10] M
  | [], _, x3 => ⟨x3, by rw [forL]⟩
  | v :: l, h, x3 => by
    obtain ⟨y3, ih⟩ := odd_loop R x0 x1 x4 x5 x6 x7 x8 x9 x10 l (fun u hu => h u (List.mem_cons_of_mem _ hu)) (some v)
    refine ⟨y3, ?_⟩
    have eg : gN 3 v [x0, x1, some (.lam k), x3, x4, x5, x6, x7, x8, x9, x10] M = .ok [x0, x1, some (.lam k), some v, x4, x5, x6, x7, x8, x9, x10] M := rfl
    rw [forL, eg]
    simp only [odd_body M R (h v List.mem_cons_self)]
    exact ih
/-- the least -/
theorem best_head (a : Nat) : ∀ (r : List Nat), (∀ x ∈ r, a ≤ x) → bestD PySem.W.dataLt (.int a) (natsD r) = .int a
  | [], _ => rfl
  | x :: r, h => by
    have hx := h x List.mem_cons_self
    have ih := best_head a r fun y hy => h y (List.mem_cons_of_mem _ hy)
    have e : PySem.W.dataLt (dP (.int (x : Int))) (dP (.int (a : Int))) = false := by
      show PySem.W.dataLt (.int (x : Int)) (.int (a : Int)) = false
      rw [lt_int]
      exact decide_eq_false (by omega)
    have hc : natsD (x :: r) = .int (x : Int) :: natsD r := rfl
    unfold bestD at ih ⊢
    rw [hc, List.foldl_cons, e, if_neg (by simp)]
    exact ih
theorem min_head {a : Nat} {r : List Nat} (h : ∀ x ∈ r, a ≤ x) : minL [.lst (natsD (a :: r))] M = .ok (.int a) M := by
  have hc : natsD (a :: r) = .int (a : Int) :: natsD r := rfl
  have mo : minOk (natsD (a :: r)) = true := by
    unfold minOk
    rw [natsD_ints, toPs_ints]
    have hd := ints_depth ((a :: r).map fun (q : Nat) => (q : Int))
    simp only [alike_ints, Bool.true_and, Bool.and_eq_true, List.all_map, List.all_eq_true, decide_eq_true_eq]
    exact ⟨fun t _ => rfl, by omega⟩
  show (match some (natsD (a :: r)) with
    | some (d :: r) => if minOk (d :: r) then Rs.ok (bestD PySem.W.dataLt d r) M else .no
    | _ => .no) = _
  rw [hc] at mo ⊢
  simp only [mo, if_true, best_head a r h]
end
end
end Dl

set_option Elab.async false
set_option linter.all false
set_option autoImplicit false
set_option maxRecDepth 100000
set_option maxHeartbeats 4000000
/-! refused right, whole. -/
namespace Dl
noncomputable section
open PySem PySem.Spec L2
/-- some loops -/
theorem more_comp {R : Mem} (n : Nat) (hn : n ≤ 10) (x1 x2 x3 x4 x5 x6 x7 x9 x10 : Option D) (c : Int) (hc : c ≤ 1000000) (M : Mem) (h : Pn c M R) :
    ∃ (ps : List Tie) (M' : Mem), TOl true n ps ∧ ps.length ≤ 10 ∧ Pn (c + 10) M' R ∧
      compL (gN 8) (tBl (e2 (eqD false) (eCall 2 F__law_draw (aCons (eVar 0) (aCons (eC (.int 3)) aNil))) (eC (.int 0)))) (eTup (aCons (eVar 8) (aCons (eVar 8) aNil))) [some (.ref 0), x1, x2, x3, x4, x5, x6, x7, none, x9, x10] ((List.range n).map fun (i : Nat) => D.int i) M [] = .ok (ps.map tieD) M' := by
  obtain ⟨ys, M', e, ⟨ps, rfl, h2, h3⟩, hl⟩ := compL_inv (gm := gN 8) (tt := tBl (e2 (eqD false) (eCall 2 F__law_draw (aCons (eVar 0) (aCons (eC (.int 3)) aNil))) (eC (.int 0)))) (el := eTup (aCons (eVar 8) (aCons (eVar 8) aNil))) (δ := [some (.ref 0), x1, x2, x3, x4, x5, x6, x7, none, x9, x10]) (items := (List.range n).map fun (i : Nat) => D.int i) (M := M)
    (fun i M' acc => ∃ ps : List Tie, acc = ps.map tieD ∧ TOl true n ps ∧ Pn (c + i) M' R) ⟨[], rfl, (fun t ht => by simp at ht), h.mono (by omega)⟩ (by simp; omega) (fun i d M' acc hd ⟨ps, h1, h2, h3⟩ => by
      have hi : i < n := by have := (List.getElem?_eq_some_iff.mp hd).1; simpa using this
      have hd' : d = .int i := by
        rw [List.getElem?_map, List.getElem?_range hi] at hd
        exact (Option.some.inj hd).symm
      subst hd'
      obtain ⟨k, M1, hk, hP1, e1⟩ := drawP h3 (by omega) (many := 3) (by omega) (by omega)
      have e1' : F__law_draw [.ref 0, .int 3] M' = .ok (.int k) M1 := e1
      refine ⟨_, M', decide ((k : Int) = 0), M1, rfl, ?_, fun _ => ⟨ps, h1, h2, hP1.mono (by push_cast; omega)⟩, fun _ => ⟨tieD (i, i), M1, ?_, ps ++ [(i, i)], by rw [h1, List.map_append]; rfl, h2.app (fun t ht => by simp at ht; subst ht; exact ⟨Nat.le_refl _, hi, fun z => nomatch z⟩), hP1.mono (by push_cast; omega)⟩⟩
      · simp only [ev_tBl, ev_e2, ev_call, ev_cons, ev_var, List.set_cons_succ, List.set_cons_zero, List.getElem?_cons_zero, List.getElem?_cons_succ, Rs.bind_ok, ev_C, ev_nil, List.length_cons, List.length_nil, if_true, e1', ev_eqI, Bool.false_eq_true, if_false, Nat.reduceAdd]
      · simp only [ev_tup, ev_cons, ev_var, List.set_cons_succ, List.set_cons_zero, List.getElem?_cons_zero, List.getElem?_cons_succ, Rs.bind_ok, ev_nil, List.length_cons, List.length_nil, sz_of (show 0 + 1 + 1 ≤ 1000000 by omega), if_true, tieD])
  simp only [List.length_map, List.length_range] at h3 hl
  exact ⟨ps, M', h2, by omega, h3.mono (by omega), e⟩
theorem eq_refused {c : Int} {M R : Mem} (hP : Pn c M R) (hc : c ≤ 100000) {n : Nat} {ts : List Tie} (w : BWeb n ts) {k : Nat} (Rf : Refuses k) :
    ∃ M', Pn (c + 20) M' R ∧ F__law_refused_right [.ref 0, webD n ts, .lam k] M = .ok (.bl true) M' := by
  have hn := w.hn
  have hl := w.hl
  have hs : startD 11 [.ref 0, webD n ts, .lam k] = [some (.ref 0), some (webD n ts), some (.lam k), none, none, none, none, none, none, none, none] := rfl
  have e1 := eq_no_webs M w
  obtain ⟨y3, e2'⟩ := odd_loop M Rf (some (.ref 0)) (some (webD n ts)) none none none none none none none (oddL n ts) (odd_all w) none
  have f1 : sFor (aOf itL (eCall 1 F__law_no_webs (aCons (eVar 1) aNil))) (gN 3) B__law_refused_right_for1 [some (.ref 0), some (webD n ts), some (.lam k), none, none, none, none, none, none, none, none] M = .nx [some (.ref 0), some (webD n ts), some (.lam k), y3, none, none, none, none, none, none, none] M := by
    simp only [ev_for, ev_aOf, ev_call, ev_cons, ev_var, List.getElem?_cons_zero, List.getElem?_cons_succ, Rs.bind_ok, ev_nil, List.length_cons, List.length_nil, Nat.reduceAdd, if_true, e1, itL, ofO_some, Rs.stm_ok]
    exact e2'
  by_cases h0 : n = 0
  · refine ⟨M, hP.mono (by omega), ?_⟩
    have hg : decide ((0 : Int) < (n : Int)) = false := decide_eq_false (by omega)
    unfold F__law_refused_right defF
    rw [hs, B__law_refused_right, seq_nx _ _ _ _ _ _ f1]
    rw [seq_skip _ _ _ _ _ M (by simp only [ev_tBl, ev_e2, ev_var, ev_C, List.getElem?_cons_zero, List.getElem?_cons_succ, Rs.bind_ok, ix_web0, ev_gt, hg])]
    simp only [ev_ret, ev_C, Rs.stm_ok, dropM_same]
  · obtain ⟨p, M1, hp, P1, e3⟩ := drawP hP (by omega) (many := n) (by omega) (by omega)
    obtain ⟨more, M2, mo, ml, P2, e4⟩ := more_comp n hn (some (webD n ts)) (some (.lam k)) y3 none none none none none none (c + 1) (by omega) M1 P1
    have hg : decide ((0 : Int) < (n : Int)) = true := decide_eq_true (by omega)
    have r1 := range1 n (by omega)
    have m2 := mkL_true M2 (more.map tieD) (by rw [List.length_map, sizeLine_eq]; omega)
    have ls : listD true [.tup (ts.map tieD)] M2 = .ok (.lst (ts.map tieD)) M2 := mkL_true M2 _ (by rw [List.length_map, sizeLine_eq]; omega)
    have a1 : addD true (.lst (ts.map tieD)) (.lst (more.map tieD)) M2 = .ok (.lst ((ts ++ more).map tieD)) M2 := by
      show mkL true (ts.map tieD ++ more.map tieD) M2 = _
      rw [← List.map_append]
      exact mkL_true M2 _ (by rw [List.length_map, List.length_append, sizeLine_eq]; omega)
    have m3 : mkL true [D.tup [.int p, .int p]] M2 = .ok (.lst [D.tup [.int p, .int p]]) M2 := mkL_true M2 _ (by simp [sizeLine_eq])
    have a2 : addD true (.lst ((ts ++ more).map tieD)) (.lst [D.tup [.int p, .int p]]) M2 = .ok (.lst ((ts ++ more ++ [(p, p)]).map tieD)) M2 := by
      show mkL true ((ts ++ more).map tieD ++ [D.tup [.int p, .int p]]) M2 = _
      have : (ts ++ more).map tieD ++ [D.tup [.int p, .int p]] = (ts ++ more ++ [(p, p)]).map tieD := by rw [List.map_append (l₂ := [(p, p)])]; rfl
      rw [this]
      exact mkL_true M2 _ (by simp [sizeLine_eq]; omega)
    have ew := eq_law_web M2 n (ts ++ more ++ [(p, p)]) (by simp; omega)
    have wl : Web n (mkT (ts ++ more ++ [(p, p)])) := mkT_web fun t ht => by
      rcases List.mem_append.mp ht with ht | ht
      · rcases List.mem_append.mp ht with ht | ht
        · have := w.w.ok t ht; exact this
        · have := mo t ht; exact ⟨this.1, this.2.1⟩
      · simp at ht; subst ht; exact ⟨Nat.le_refl _, hp⟩
    have pin : (p, p) ∈ mkT (ts ++ more ++ [(p, p)]) := mkT_mem.mpr (by simp)
    have lln : (mkT (ts ++ more ++ [(p, p)])).length ≤ 300 := Nat.le_trans (mkT_len _) (by simp; omega)
    generalize mkT (ts ++ more ++ [(p, p)]) = ls' at ew wl pin lln
    obtain ⟨t, r, hf⟩ : ∃ t r, (ls'.filter fun t => decide (t.1 = t.2)) = t :: r := by
      cases hf : ls'.filter fun t => decide (t.1 = t.2) with
      | nil =>
        rw [List.filter_eq_nil_iff] at hf
        exact absurd (by simp) (hf _ pin)
      | cons t r => exact ⟨t, r, rfl⟩
    have srt : (t :: r).Pairwise tlt := hf ▸ wl.srt.filter _
    have hmin : ∀ x ∈ r.map Prod.fst, t.1 ≤ x := fun x hx => by
      obtain ⟨u, hu, rfl⟩ := List.mem_map.mp hx
      have := (List.pairwise_cons.mp srt).1 u hu
      unfold tlt at this
      omega
    have hloop := need_hue_loop M2 wl (by omega) (t := t) (by rw [hf]; rfl)
    obtain ⟨F, hF, eF⟩ := Rf M2 _ _ hloop
    have c1 : compL (gTupD (gsCons (gN 9) (gsCons (gN 10) gsNil))) (tBl (e2 (eqD false) (eVar 9) (eVar 10))) (eVar 9) [some (.ref 0), some (webD n ts), some (.lam k), y3, some (webD n ls'), none, some (.int p), some (.lst (more.map tieD)), none, none, none] (ls'.map tieD) M2 [] = .ok (natsD ((t :: r).map Prod.fst)) M2 := by
      have := compL_filterG (M := M2) (gm := gTupD (gsCons (gN 9) (gsCons (gN 10) gsNil))) (tt := tBl (e2 (eqD false) (eVar 9) (eVar 10))) (el := eVar 9) (δ := [some (.ref 0), some (webD n ts), some (.lam k), y3, some (webD n ls'), none, some (.int p), some (.lst (more.map tieD)), none, none, none]) tieD (fun t : Tie => .int t.1) (fun t => decide (t.1 = t.2)) (l := ls') (acc := []) (by simp; omega) (fun t ht => ⟨[some (.ref 0), some (webD n ts), some (.lam k), y3, some (webD n ls'), none, some (.int p), some (.lst (more.map tieD)), none, some (.int t.1), some (.int t.2)], rfl, by
        simp only [ev_tBl, ev_e2, ev_var, List.getElem?_cons_zero, List.getElem?_cons_succ, Rs.bind_ok, ev_eqI, Bool.false_eq_true, if_false, len_dec], fun _ => rfl⟩)
      rw [this, List.nil_append, hf, natsD, List.map_map]
      rfl
    have hrl : r.length ≤ 300 := by
      have h1 := List.length_filter_le (fun t : Tie => decide (t.1 = t.2)) ls'
      rw [hf, List.length_cons] at h1
      omega
    have m4 := mkL_true M2 (natsD ((t :: r).map Prod.fst)) (by rw [natsD_len, List.length_map, List.length_cons, sizeLine_eq]; omega)
    have mn : minL [.lst (natsD ((t :: r).map Prod.fst))] M2 = .ok (.int t.1) M2 := min_head M2 hmin
    have ht : t.1 ≤ 10 := by
      have h1 : t ∈ ls' := (List.mem_filter.mp (hf ▸ List.mem_cons_self)).1
      have := wl.ok t h1
      omega
    obtain ⟨s, es⟩ := ev_reprP (Pl.tup (ds := [.str "NotKept", .str "bare", .int t.1]) (PlA.cons (w1 := 10) (.str (by decide +kernel) (by decide +kernel) (by decide +kernel)) (PlA.cons (w1 := 10) (.str (by decide +kernel) (by decide +kernel) (by decide +kernel)) (PlA.cons (w1 := 0) (w2 := 0) (k := 1) (.nat (by omega)) .nil)))) (by omega) (by omega)
    have ns : eqD false (.str s) (.str s) M2 = .ok (.bl true) M2 := by rw [ev_eqS]; simp
    have ex : eCallX 2 (fun _ => none) TLam (aCons (eVar 4) aNil) [some (.ref 0), some (webD n ts), some (.lam k), y3, some (webD n ls'), some (.int t.1), some (.int p), some (.lst (more.map tieD)), none, none, none] M2 = .ex ⟨4, [("witness", .int t.1), ("promise", .str "bare")]⟩ M2 := by
      unfold eCallX
      simp only [List.getElem?_cons_zero, List.getElem?_cons_succ, hF, ev_call, ev_cons, ev_var, Rs.bind_ok, ev_nil, List.length_cons, List.length_nil, Nat.reduceAdd, if_true, eF]
    refine ⟨dropM M (.bl true) M2, ?_, ?_⟩
    · rw [dropM_same (by rw [hP.len, P2.len])]
      exact P2.mono (by omega)
    unfold F__law_refused_right defF
    rw [hs, B__law_refused_right, seq_nx _ _ _ _ _ _ f1, ev_seq]
    rw [sif_yes _ _ _ _ _ M (by simp only [ev_tBl, ev_e2, ev_var, ev_C, List.getElem?_cons_zero, List.getElem?_cons_succ, Rs.bind_ok, ix_web0, ev_gt, hg])]
    rw [seq_nx _ _ _ [some (.ref 0), some (webD n ts), some (.lam k), y3, none, none, some (.int p), some (.lst (more.map tieD)), none, none, none] _ M2 (by
      simp only [ev_par, ev_cons, ev_call, ev_e2, ev_var, ev_C, List.getElem?_cons_zero, List.getElem?_cons_succ, Rs.bind_ok, ix_web0, ev_nil, List.length_cons, List.length_nil, Nat.reduceAdd, if_true, e3, ev_lc, ev_aRng, r1, ofO_some, wipeD, List.set_cons_succ, List.set_cons_zero, e4, m2, Rs.stm_ok])]
    rw [seq_nx _ _ _ [some (.ref 0), some (webD n ts), some (.lam k), y3, some (webD n ls'), none, some (.int p), some (.lst (more.map tieD)), none, none, none] _ M2 (by
      simp only [ev_asg, ev_call, ev_cons, ev_e2, ev_B, ev_var, ev_C, List.getElem?_cons_zero, List.getElem?_cons_succ, Rs.bind_ok, ix_web0, ix_web1, ev_nil, ls, a1, ev_lst, ev_tup, List.length_cons, List.length_nil, Nat.reduceAdd, sz_of (show 2 ≤ 1000000 by omega), if_true, m3, a2, ew, Rs.stm_ok, ev_gN, nxO_ok, List.set_cons_succ, List.set_cons_zero])]
    rw [seq_nx _ _ _ [some (.ref 0), some (webD n ts), some (.lam k), y3, some (webD n ls'), some (.int t.1), some (.int p), some (.lst (more.map tieD)), none, none, none] _ M2 (by
      simp only [ev_asg, ev_B, ev_cons, ev_lc, ev_aOf, ev_e2, ev_var, ev_C, List.getElem?_cons_zero, List.getElem?_cons_succ, Rs.bind_ok, ix_web1, itT, ofO_some, wipeD, List.set_cons_succ, List.set_cons_zero, c1, m4, ev_nil, mn, Rs.stm_ok, ev_gN, nxO_ok])]
    simp only [ev_ret, ev_e2, ev_B, ev_cons, ev_met, ex, met_kept, Rs.bind_ok, ev_nil, es, ev_tup, ev_C, ev_var, List.getElem?_cons_zero, List.getElem?_cons_succ, List.length_cons, List.length_nil, Nat.reduceAdd, sz_of (show 3 ≤ 1000000 by omega), if_true, ns, Rs.stm_ok]
end
end Dl

set_option Elab.async false
set_option linter.all false
set_option autoImplicit false
set_option maxRecDepth 100000
set_option maxHeartbeats 4000000
/-! bent values. -/
namespace Dl
noncomputable section
open PySem PySem.Spec L2
theorem cut_sub {ds : List D} {lo hi : Option Int} : (∀ x ∈ cutD ds lo hi, x ∈ ds) ∧ (cutD ds lo hi).length ≤ ds.length := by
  unfold cutD
  refine ⟨fun x hx => List.mem_of_mem_drop (List.mem_of_mem_take hx), ?_⟩
  rw [List.length_take, List.length_drop]
  omega
theorem vl_cut {xs : List D} (h : ∀ x ∈ xs, Itm x) (hl : xs.length ≤ 100) (lo hi : Option Int) : Vl (.tup (cutD xs lo hi)) :=
  .tup _ (fun x hx => h x (cut_sub.1 x hx)) (by have := cut_sub (ds := xs) (lo := lo) (hi := hi); omega)
/-- the list being made -/
def Fnd (xs : List D) (k : Nat) : Prop := (∀ v ∈ xs, Vl v) ∧ xs.length ≤ k
theorem bent_inner {R : Mem} {xs : List D} (h : ∀ x ∈ xs, Itm x) (hl : xs.length ≤ 45) (k : Nat) (x0 x3 : Option D) : ∀ (l : List D), (∀ x ∈ l, Itm x) → ∀ (fs : List D) (m : Nat), Fnd fs m → m + l.length ≤ 1000 → ∀ (c : Int) (M : Mem), Pn c M (R ++ [.lst fs]) → ∀ x5 : Option D,
    ∃ (fs' : List D) (M' : Mem) (y5 : Option D), Fnd fs' (m + l.length) ∧ Pn c M' (R ++ [.lst fs']) ∧
      forL (gN 5) B__law_bent_for1 l [x0, some (.tup xs), some (.ref (R.length + 1)), x3, some (.int k), x5] M = .nx [x0, some (.tup xs), some (.ref (R.length + 1)), x3, some (.int k), y5] M'
  | [], _, fs, m, hf, _, c, M, hP, x5 => ⟨fs, M, x5, ⟨hf.1, by have := hf.2; simp; omega⟩, hP, by rw [forL]⟩
  | d :: l, hi, fs, m, hf, hm, c, M, hP, x5 => by
    rw [List.length_cons] at hm
    obtain ⟨cs, a, r, rfl, hcs⟩ := hP
    have e1 : (penO cs a r :: (R ++ [.lst fs]))[R.length + 1]? = some (.lst fs) := by
      rw [List.getElem?_cons_succ, List.getElem?_append_right (Nat.le_refl _)]; simp
    have gl : getL (penO cs a r :: (R ++ [.lst fs])) (.ref (R.length + 1)) = some fs := by simp only [getL, e1]
    generalize hv : cutD xs none (some (k : Int)) ++ [d] ++ cutD xs (some ((k : Int) + 1)) none = v
    have k1 := cut_sub (ds := xs) (lo := none) (hi := some (k : Int))
    have k2 := cut_sub (ds := xs) (lo := some ((k : Int) + 1)) (hi := none)
    have hvl : v.length ≤ 100 := by rw [← hv]; simp only [List.length_append, List.length_cons, List.length_nil]; omega
    have vv : Vl (.tup v) := .tup _ (fun x hx => by
      rw [← hv] at hx
      rcases List.mem_append.mp hx with hx | hx
      · rcases List.mem_append.mp hx with hx | hx
        · exact h x (k1.1 x hx)
        · simp at hx; subst hx; exact hi _ List.mem_cons_self
      · exact h x (k2.1 x hx)) hvl
    have s1 : ∀ M : Mem, sliceD true (.tup xs) none (some (k : Int)) M = .ok (.tup (cutD xs none (some (k : Int)))) M := fun M => rfl
    have s2 : ∀ M : Mem, sliceD true (.tup xs) (some ((k : Int) + 1)) none M = .ok (.tup (cutD xs (some ((k : Int) + 1)) none)) M := fun M => rfl
    have a1 : ∀ M : Mem, addD true (.tup (cutD xs none (some (k : Int)))) (.tup [d]) M = .ok (.tup (cutD xs none (some (k : Int)) ++ [d])) M := fun M => by
      show (if sz _ then Rs.ok (D.tup (cutD xs none (some (k : Int)) ++ [d])) M else .no) = _
      rw [if_pos (sz_of (by simp; omega))]
    have a2 : ∀ M : Mem, addD true (.tup (cutD xs none (some (k : Int)) ++ [d])) (.tup (cutD xs (some ((k : Int) + 1)) none)) M = .ok (.tup v) M := fun M => by
      show (if sz _ then Rs.ok (D.tup (cutD xs none (some (k : Int)) ++ [d] ++ cutD xs (some ((k : Int) + 1)) none)) M else .no) = _
      rw [if_pos (sz_of (by rw [List.length_append, List.length_singleton]; omega)), hv]
    have ap : appendD (.ref (R.length + 1)) [.tup v] (penO cs a r :: (R ++ [.lst fs])) = .ok .non (penO cs a r :: (R ++ [.lst (fs ++ [.tup v])])) := by
      simp only [appendD, refL, e1]
      rw [if_pos (by have := sizeLine_eq; have := hf.2; simp; omega), List.set_cons_succ, List.set_append_right _ _ (Nat.le_refl _)]
      simp
    obtain ⟨fs', M', y5, f1, p1, e⟩ := bent_inner h hl k x0 x3 l (fun x hx => hi x (List.mem_cons_of_mem _ hx)) (fs ++ [.tup v]) (m + 1) ⟨fun u hu => by
      rcases List.mem_append.mp hu with hu | hu
      · exact hf.1 u hu
      · simp at hu; subst hu; exact vv, by have := hf.2; simp; omega⟩ (by omega) c (penO cs a r :: (R ++ [.lst (fs ++ [.tup v])])) ⟨cs, a, r, rfl, hcs⟩ (some d)
    refine ⟨fs', M', y5, ⟨f1.1, by have := f1.2; simp; omega⟩, p1, ?_⟩
    have eg : gN 5 d [x0, some (.tup xs), some (.ref (R.length + 1)), x3, some (.int k), x5] (penO cs a r :: (R ++ [.lst fs])) = .ok [x0, some (.tup xs), some (.ref (R.length + 1)), x3, some (.int k), some d] (penO cs a r :: (R ++ [.lst fs])) := rfl
    have eb : B__law_bent_for1 [x0, some (.tup xs), some (.ref (R.length + 1)), x3, some (.int k), some d] (penO cs a r :: (R ++ [.lst fs])) = .nx [x0, some (.tup xs), some (.ref (R.length + 1)), x3, some (.int k), some d] (penO cs a r :: (R ++ [.lst (fs ++ [.tup v])])) := by
      simp only [B__law_bent_for1, ev_expr, ev_BM, ev_var, List.getElem?_cons_zero, List.getElem?_cons_succ, Rs.bind_ok, gl, ev_cons, ev_e2, ev_slice, ev_oNo, ev_oSome, ev_C, ev_addI, s1, s2, ev_tup, ev_nil, List.length_cons, List.length_nil, Nat.reduceAdd, sz_of (show 1 ≤ 1000000 by omega), if_true, a1, a2, ap, Rs.stm_ok]
    rw [forL, eg]
    simp only [eb]
    exact e
theorem bent_outer {R : Mem} {xs : List D} (h : ∀ x ∈ xs, Itm x) (hl : xs.length ≤ 45) (h0 : 0 < xs.length) (t : Nat) (ht : t ≤ 2) (fs : List D) (hf : Fnd fs 6) (c : Int) (hc : c ≤ 1000000) (M : Mem) (hP : Pn c M (R ++ [.lst fs])) :
    ∃ (fs' : List D) (M' : Mem) (y3 y4 y5 : Option D), Fnd fs' 100 ∧ Pn (c + 10) M' (R ++ [.lst fs']) ∧
      forL (gN 3) B__law_bent_for2 ((List.range t).map fun (i : Nat) => D.int i) [some (.ref 0), some (.tup xs), some (.ref (R.length + 1)), none, none, none] M = .nx [some (.ref 0), some (.tup xs), some (.ref (R.length + 1)), y3, y4, y5] M' := by
  obtain ⟨δ', M', e, y3, y4, y5, fs', rfl, f1, p1⟩ := forL_inv (gm := gN 3) (body := B__law_bent_for2) (items := (List.range t).map fun (i : Nat) => D.int i) (δ := [some (.ref 0), some (.tup xs), some (.ref (R.length + 1)), none, none, none]) (M := M)
    (fun i δ M' => ∃ (y3 y4 y5 : Option D) (fs' : List D), δ = [some (.ref 0), some (.tup xs), some (.ref (R.length + 1)), y3, y4, y5] ∧ Fnd fs' (6 + 8 * i) ∧ Pn (c + 2 * i) M' (R ++ [.lst fs'])) ⟨_, _, _, _, rfl, hf, hP.mono (by omega)⟩ (fun i d δ M' hd ⟨y3, y4, y5, fs', h1, h2, h3⟩ => by
      have hi : i < t := by have := (List.getElem?_eq_some_iff.mp hd).1; simpa using this
      subst h1
      obtain ⟨k, M1, hk, P1, e1⟩ := drawP h3 (by omega) (many := xs.length) h0 (by omega)
      obtain ⟨q, M2, hq, P2, e2⟩ := drawP P1 (by omega) (many := 4) (by omega) (by omega)
      have e2' : F__law_draw [.ref 0, .int 4] M1 = .ok (.int q) M2 := e2
      obtain ⟨fs2, M3, z5, g1, g2, e3⟩ := bent_inner (R := R) h hl k (some (.ref 0)) (some d) [.non, .bl true, .int q, .tup [.int 0], .tup [.int 0, .int 1], .lst [.int 0, .int 1], .int (-1), .str "0"] (fun x hx => by
        simp only [List.mem_cons, List.not_mem_nil, or_false] at hx
        rcases hx with rfl | rfl | rfl | rfl | rfl | rfl | rfl | rfl
        · exact .non
        · exact .tr
        · exact .nat q (by omega)
        · exact .one
        · exact .two 0 1 (by omega) (by omega)
        · exact .lst
        · exact .neg
        · exact .str) fs' (6 + 8 * i) h2 (by simp; omega) (c + 2 * i + 1 + 1) M2 P2 y5
      have m1 : mkL true [.non, .bl true, .int q, .tup [.int 0], .tup [.int 0, .int 1], .lst [.int 0, .int 1], .int (-1), .str "0"] M2 = .ok (.lst [.non, .bl true, .int q, .tup [.int 0], .tup [.int 0, .int 1], .lst [.int 0, .int 1], .int (-1), .str "0"]) M2 := mkL_true M2 _ (by simp [sizeLine_eq])
      have m2 : mkL true [D.int 0, .int 1] M2 = .ok (.lst [D.int 0, .int 1]) M2 := mkL_true M2 _ (by simp [sizeLine_eq])
      have neg : negD (.int 1) M2 = .ok (.int (-1)) M2 := rfl
      have z : ∀ k, k ≤ 20 → sz k = true := fun k hk => sz_of (by omega)
      refine ⟨[some (.ref 0), some (.tup xs), some (.ref (R.length + 1)), some d, y4, y5], M', [some (.ref 0), some (.tup xs), some (.ref (R.length + 1)), some d, some (.int k), z5], M3, rfl, ?_, _, _, _, fs2, rfl, ⟨g1.1, by have := g1.2; simp at this; omega⟩, g2.mono (by push_cast; omega)⟩
      unfold B__law_bent_for2
      rw [seq_nx _ _ _ [some (.ref 0), some (.tup xs), some (.ref (R.length + 1)), some d, some (.int k), y5] _ M1 (by
        simp only [ev_asg, ev_call, ev_cons, ev_var, ev_B, List.getElem?_cons_zero, List.getElem?_cons_succ, Rs.bind_ok, ev_nil, ev_lenT, List.length_cons, List.length_nil, Nat.reduceAdd, if_true, e1, Rs.stm_ok, ev_gN, nxO_ok, List.set_cons_succ, List.set_cons_zero])]
      simp only [ev_for, ev_aOf, ev_lst, ev_cons, ev_C, ev_call, ev_var, ev_tup, ev_e1, ev_nil, List.getElem?_cons_zero, List.getElem?_cons_succ, Rs.bind_ok, List.length_cons, List.length_nil, Nat.reduceAdd, if_true, e2', z, Nat.reduceLeDiff, m2, neg, m1, itL, ofO_some, Rs.stm_ok]
      exact e3)
  simp only [List.length_map, List.length_range] at f1 p1
  exact ⟨fs', M', y3, y4, y5, ⟨f1.1, by have := f1.2; omega⟩, p1.mono (by omega), e⟩
end
end Dl

set_option Elab.async false
set_option linter.all false
set_option autoImplicit false
set_option maxRecDepth 100000
set_option maxHeartbeats 4000000
/-! bent, whole; the pen; directions drawn. -/
namespace Dl
noncomputable section
open PySem PySem.Spec L2
theorem bel_int (n : Nat) (i : Int) : bel n (.int i) = true := by rw [bel] <;> simp
theorem bel_bl (n : Nat) (b : Bool) : bel n (.bl b) = true := by rw [bel] <;> simp
theorem bel_str (n : Nat) (s : Str) : bel n (.str s) = true := by rw [bel] <;> simp
theorem bel_non (n : Nat) : bel n .non = true := by rw [bel] <;> simp
theorem Itm.bel {d : D} (n : Nat) (h : Itm d) : bel n d = true := by
  cases h with
  | nat k h => exact bel_int _ _
  | non => exact bel_non _
  | tr => exact bel_bl _ _
  | one => rw [Dl.bel]; simp [bels, bel_int]
  | two a b ha hb => rw [Dl.bel]; simp [bels, bel_int]
  | lst => rw [Dl.bel]; simp [bels, bel_int]
  | neg => exact bel_int _ _
  | str => exact bel_str _ _
theorem Vl.bel {v : D} (n : Nat) (h : Vl v) : bel n v = true := by
  cases h with
  | non => exact bel_non _
  | lst xs h hl => rw [Dl.bel, bels_iff]; exact fun x hx => (h x hx).bel n
  | tup xs h hl => rw [Dl.bel, bels_iff]; exact fun x hx => (h x hx).bel n
theorem eq_bent {c : Int} {M R : Mem} (hP : Pn c M R) (hc : c ≤ 100000) {xs : List D} (h : ∀ x ∈ xs, Itm x) (hl : xs.length ≤ 45) :
    ∃ (vs : List D) (M' : Mem), (∀ v ∈ vs, Vl v) ∧ vs.length ≤ 100 ∧ Pn (c + 10) M' R ∧ F__law_bent [.ref 0, .tup xs] M = .ok (.lst vs) M' := by
  have hs : startD 6 [.ref 0, .tup xs] = [some (.ref 0), some (.tup xs), none, none, none, none] := rfl
  have h0 := hP
  have lM := hP.len
  generalize hfs : [D.non, .lst xs, .tup (cutD xs (some 1) none), .tup (xs ++ cutD xs (some (-1)) none), .tup [], .tup xs.reverse] = fs
  have k2 := cut_sub (ds := xs) (lo := some (-1)) (hi := none)
  have f0 : Fnd fs 6 := by
    rw [← hfs]
    refine ⟨fun v hv => ?_, by simp⟩
    simp only [List.mem_cons, List.not_mem_nil, or_false] at hv
    rcases hv with rfl | rfl | rfl | rfl | rfl | rfl
    · exact .non
    · exact .lst xs h (by omega)
    · exact vl_cut h (by omega) _ _
    · exact .tup _ (fun x hx => by
        rcases List.mem_append.mp hx with hx | hx
        · exact h x hx
        · exact h x (k2.1 x hx)) (by rw [List.length_append]; omega)
    · exact .tup [] (fun x hx => by simp at hx) (by simp)
    · exact .tup _ (fun x hx => h x (List.mem_reverse.mp hx)) (by rw [List.length_reverse]; omega)
  have l1 : listD true [.tup xs] M = .ok (.lst xs) M := mkL_true M _ (by rw [sizeLine_eq]; omega)
  have s1 : sliceD true (.tup xs) (some 1) none M = .ok (.tup (cutD xs (some 1) none)) M := rfl
  have s2 : sliceD true (.tup xs) (some (-1)) none M = .ok (.tup (cutD xs (some (-1)) none)) M := rfl
  have neg : negD (.int 1) M = .ok (.int (-1)) M := rfl
  have a1 : addD true (.tup xs) (.tup (cutD xs (some (-1)) none)) M = .ok (.tup (xs ++ cutD xs (some (-1)) none)) M := by
    show (if sz _ then Rs.ok (D.tup (xs ++ cutD xs (some (-1)) none)) M else .no) = _
    rw [if_pos (sz_of (by omega))]
  have rv : revD (.tup xs) M = .ok (.tup xs.reverse) M := rfl
  have m1 : mkL false fs M = .ok (.ref (R.length + 1)) (M ++ [.lst fs]) := by rw [mkL_false _ _ (by have := f0.2; rw [sizeLine_eq]; omega), lM]
  have st : sAsg (eLst false (aCons (eC .non) (aCons (eB (listD true) (aCons (eVar 1) aNil)) (aCons (eSlice true (eVar 1) (oSome (eC (.int 1))) oNo) (aCons (e2 (addD true) (eVar 1) (eSlice true (eVar 1) (oSome (e1 negD (eC (.int 1)))) oNo)) (aCons (eTup aNil) (aCons (e1 revD (eVar 1)) aNil))))))) (gN 2) [some (.ref 0), some (.tup xs), none, none, none, none] M =
      .nx [some (.ref 0), some (.tup xs), some (.ref (R.length + 1)), none, none, none] (M ++ [.lst fs]) := by
    simp only [ev_asg, ev_lst, ev_cons, ev_C, ev_B, ev_var, List.getElem?_cons_zero, List.getElem?_cons_succ, Rs.bind_ok, ev_nil, l1, ev_slice, ev_oSome, ev_oNo, s1, ev_e2, ev_e1, neg, s2, a1, ev_tup, List.length_nil, sz_of (show 0 ≤ 1000000 by omega), if_true, rv, hfs, m1, Rs.stm_ok, ev_gN, nxO_ok, List.set_cons_succ, List.set_cons_zero]
  have P1 := hP.app [.lst fs]
  obtain ⟨fs', M', y3, y4, y5, f1, p1, e⟩ : ∃ (fs' : List D) (M' : Mem) (y3 y4 y5 : Option D), Fnd fs' 100 ∧ Pn (c + 10) M' (R ++ [.lst fs']) ∧
      sFor (aRng rng1 (aCons (eIf (tBl (e2 gtD (eB lenD (aCons (eVar 1) aNil)) (eC (.int 0)))) (eC (.int 2)) (eC (.int 0))) aNil)) (gN 3) B__law_bent_for2 [some (.ref 0), some (.tup xs), some (.ref (R.length + 1)), none, none, none] (M ++ [.lst fs]) = .nx [some (.ref 0), some (.tup xs), some (.ref (R.length + 1)), y3, y4, y5] M' := by
    by_cases hx : 0 < xs.length
    · obtain ⟨fs', M', y3, y4, y5, f1, p1, e⟩ := bent_outer (R := R) h hl hx 2 (by omega) fs f0 c (by omega) (M ++ [.lst fs]) P1
      refine ⟨fs', M', y3, y4, y5, f1, p1, ?_⟩
      have hg : decide ((0 : Int) < (xs.length : Int)) = true := decide_eq_true (by omega)
      have r2 : rng1 [.int 2] = some ((List.range 2).map fun (i : Nat) => D.int i) := range1 2 (by omega)
      simp only [ev_for, ev_aRng, ev_cons, ev_if, ev_tBl, ev_e2, ev_B, ev_var, ev_C, List.getElem?_cons_zero, List.getElem?_cons_succ, Rs.bind_ok, ev_nil, ev_lenT, ev_gt, hg, if_true, r2, ofO_some, Rs.stm_ok]
      exact e
    · have hg : decide ((0 : Int) < (xs.length : Int)) = false := decide_eq_false (by omega)
      have r2 : rng1 [.int 0] = some ((List.range 0).map fun (i : Nat) => D.int i) := range1 0 (by omega)
      refine ⟨fs, _, none, none, none, ⟨f0.1, by have := f0.2; omega⟩, P1.mono (by omega), ?_⟩
      simp only [ev_for, ev_aRng, ev_cons, ev_if, ev_tBl, ev_e2, ev_B, ev_var, ev_C, List.getElem?_cons_zero, List.getElem?_cons_succ, Rs.bind_ok, ev_nil, ev_lenT, ev_gt, hg, Bool.false_eq_true, if_false, r2, ofO_some, Rs.stm_ok, List.range_zero, List.map_nil, forL]
  obtain ⟨cs, a, r, rfl, hcs⟩ := p1
  have g1 : (penO cs a r :: (R ++ [.lst fs']))[R.length + 1]? = some (.lst fs') := by
    rw [List.getElem?_cons_succ, List.getElem?_append_right (Nat.le_refl _)]; simp
  have fz : fzM (.ref (R.length + 1)) (penO cs a r :: (R ++ [.lst fs'])) = .ok (.lst fs') (penO cs a r :: (R ++ [.dead])) := by
    simp only [fzM, g1]
    rw [List.set_cons_succ, List.set_append_right _ _ (Nat.le_refl _)]
    simp
  have dr := Pn.drop h0 (c' := c + 10) (M' := penO cs a r :: (R ++ [.dead])) (N := [.dead]) ⟨cs, a, r, rfl, hcs⟩ (d := .lst fs') (by rw [Dl.bel, bels_iff]; exact fun x hx => (f1.1 x hx).bel _)
  refine ⟨fs', _, f1.1, f1.2, dr, ?_⟩
  unfold F__law_bent defF
  rw [hs, B__law_bent, seq_nx _ _ _ _ _ _ st, seq_nx _ _ _ _ _ _ e]
  simp only [ev_ret, ev_fz, ev_var, List.getElem?_cons_zero, List.getElem?_cons_succ, Rs.bind_ok, fz, Rs.stm_ok]
theorem zip_snoc {α β : Type} : ∀ (l : List α) (ps : List β) (u : β) (i : Nat) (hi : i < l.length), ps.length = i → l.zip (ps ++ [u]) = l.zip ps ++ [(l[i], u)]
  | [], _, _, i, hi, _ => absurd hi (by simp)
  | x :: l, [], u, i, hi, hp => by
    have : i = 0 := by rw [← hp]; rfl
    subst this
    simp
  | x :: l, p :: ps, u, i, hi, hp => by
    obtain ⟨j, rfl⟩ : ∃ j, i = j + 1 := ⟨ps.length, by rw [← hp]; rfl⟩
    have ih := zip_snoc l ps u j (by simpa using hi) (by simpa using hp)
    rw [List.cons_append, List.zip_cons_cons, ih, List.zip_cons_cons]
    rfl
/-- a direction, drawn -/
theorem eq_law_direction {c : Int} {M R : Mem} (hP : Pn c M R) (hc : c ≤ 100000) {n : Nat} {ts : List Tie} (w : BWeb n ts) (hl : ts.length ≤ 45) :
    ∃ (ps : List Tie) (M' : Mem), ps.length = ts.length ∧ (∀ p ∈ ts.zip ps, p.2 = p.1 ∨ p.2 = (p.1.2, p.1.1)) ∧ Pn (c + 45) M' R ∧ F__law_direction [.ref 0, webD n ts] M = .ok (.tup (ps.map tieD)) M' := by
  have hs : startD 3 [.ref 0, webD n ts] = [some (.ref 0), some (webD n ts), none] := rfl
  have lM := hP.len
  obtain ⟨ys, M', e, ⟨ps, rfl, h2, h3, h4⟩, hl2⟩ := compL_inv (gm := gN 2) (tt := tYes') (el := eIf (tBl (e2 (eqD false) (eCall 2 F__law_draw (aCons (eVar 0) (aCons (eC (.int 2)) aNil))) (eC (.int 0)))) (eVar 2) (e1 revD (eVar 2))) (δ := [some (.ref 0), some (webD n ts), none]) (items := ts.map tieD) (M := M)
    (fun i M' acc => ∃ ps : List Tie, acc = ps.map tieD ∧ (i ≤ ts.length → ps.length = i) ∧ (∀ p ∈ ts.zip ps, p.2 = p.1 ∨ p.2 = (p.1.2, p.1.1)) ∧ Pn (c + i) M' R) ⟨[], rfl, (fun _ => rfl), (fun p hp => by simp at hp), hP.mono (by omega)⟩ (by simp; omega) (fun i d M' acc hd ⟨ps, h1, h2, h3, h4⟩ => by
      have hi : i < ts.length := by have := (List.getElem?_eq_some_iff.mp hd).1; simpa using this
      have hpl := h2 (by omega)
      rw [List.getElem?_map, List.getElem?_eq_getElem hi] at hd
      cases hd
      obtain ⟨k, M1, hk, hP1, e1⟩ := drawP h4 (by omega) (many := 2) (by omega) (by omega)
      have e1' : F__law_draw [.ref 0, .int 2] M' = .ok (.int k) M1 := e1
      have zz : ∀ u : Tie, (∀ p ∈ ts.zip (ps ++ [u]), p.2 = p.1 ∨ p.2 = (p.1.2, p.1.1)) ↔ (u = ts[i] ∨ u = (ts[i].2, ts[i].1)) := fun u => by
        have e : ts.zip (ps ++ [u]) = ts.zip ps ++ [(ts[i], u)] :=
           zip_snoc ts ps u i hi hpl
        rw [e]
        constructor
        · intro hh
          exact hh (ts[i], u) (by simp)
        · intro hh p hp
          rcases List.mem_append.mp hp with hp | hp
          · exact h3 p hp
          · simp at hp; subst hp; exact hh
      refine ⟨_, M', true, M', rfl, rfl, (fun z => nomatch z), fun _ => ?_⟩
      by_cases hk0 : (k : Int) = 0
      · refine ⟨tieD ts[i], M1, ?_, ps ++ [ts[i]], by rw [h1, List.map_append]; rfl, (fun _ => by simp [hpl]), (zz _).mpr (.inl rfl), hP1.mono (by push_cast; omega)⟩
        simp only [ev_if, ev_tBl, ev_e2, ev_call, ev_cons, ev_var, List.set_cons_succ, List.set_cons_zero, List.getElem?_cons_zero, List.getElem?_cons_succ, Rs.bind_ok, ev_C, ev_nil, List.length_cons, List.length_nil, if_true, e1', ev_eqI, Bool.false_eq_true, if_false, Nat.reduceAdd, hk0, decide_true]
      · refine ⟨tieD (ts[i].2, ts[i].1), M1, ?_, ps ++ [(ts[i].2, ts[i].1)], by rw [h1, List.map_append]; rfl, (fun _ => by simp [hpl]), (zz _).mpr (.inr rfl), hP1.mono (by push_cast; omega)⟩
        simp only [ev_if, ev_tBl, ev_e2, ev_e1, ev_revT, ev_call, ev_cons, ev_var, List.set_cons_succ, List.set_cons_zero, List.getElem?_cons_zero, List.getElem?_cons_succ, Rs.bind_ok, ev_C, ev_nil, List.length_cons, List.length_nil, if_true, e1', ev_eqI, Bool.false_eq_true, if_false, Nat.reduceAdd, hk0, decide_false])
  rw [List.length_map] at h2 h4
  have hpl := h2 (Nat.le_refl _)
  have m := mkL_true M' (ps.map tieD) (by rw [List.length_map, sizeLine_eq]; omega)
  refine ⟨ps, dropM M (.tup (ps.map tieD)) M', hpl, h3, ?_, ?_⟩
  · rw [dropM_same (by rw [lM, h4.len])]
    exact h4.mono (by omega)
  · unfold F__law_direction defF
    rw [hs]
    simp only [B__law_direction, ev_ret, ev_B, ev_cons, ev_lc, ev_aOf, ev_e2, ev_var, ev_C, List.getElem?_cons_zero, List.getElem?_cons_succ, Rs.bind_ok, ix_web1, itT, ofO_some, wipeD, List.set_cons_succ, List.set_cons_zero, e, m, ev_nil, ev_tupL, Rs.stm_ok]
end
end Dl

set_option Elab.async false
set_option linter.all false
set_option autoImplicit false
set_option maxRecDepth 100000
set_option maxHeartbeats 4000000
/-! what a turn draws and makes. -/
namespace Dl
noncomputable section
open PySem PySem.Spec L2
theorem dir_true (M : Mem) {n : Nat} {ts ps : List Tie} (w : BWeb n ts) (hl : ts.length ≤ 45) (hp : ps.length = ts.length) (hz : ∀ p ∈ ts.zip ps, p.2 = p.1 ∨ p.2 = (p.1.2, p.1.1)) :
    (∀ x ∈ ps.map tieD, Itm x) ∧ F_is_direction_in [webD n ts, .tup (ps.map tieD)] M = .ok (.bl true) M := by
  have hn := w.hn
  have hb : ∀ p ∈ ps, p.1 ≤ 9 ∧ p.2 ≤ 9 := fun p hpp => by
    obtain ⟨i, hi, rfl⟩ := List.mem_iff_getElem.mp hpp
    have hi2 : i < (ts.zip ps).length := by rw [List.length_zip]; omega
    have e := hz _ (List.getElem_mem hi2)
    rw [List.getElem_zip] at e
    have hw := w.w.ok ts[i] (List.getElem_mem (by omega))
    simp only at e
    rcases e with e | e
    · rw [e]; omega
    · rw [e]; show ts[i].2 ≤ 9 ∧ ts[i].1 ≤ 9; omega
  have hit : ∀ x ∈ ps.map tieD, Itm x := fun x hx => by
    obtain ⟨p, hpp, rfl⟩ := List.mem_map.mp hx
    have := hb p hpp
    exact .two p.1 p.2 this.1 this.2
  obtain ⟨b, h1, _, h3⟩ := is_dir_tup M w hn hit (by simp; omega)
  have e := h3 _ rfl (by simp [hp])
  refine ⟨hit, ?_⟩
  rw [h1, e]
  have : dirP ts (ps.map tieD) = true := by
    unfold dirP
    rw [List.zip_map_right, List.all_map, List.all_eq_true]
    intro p hpp
    have := hz p hpp
    obtain ⟨t, q⟩ := p
    simp only at this
    rcases this with rfl | rfl
    · simp [itemB, tieD]
    · simp [itemB, tieD]
  rw [this]
theorem eq_bare {c : Int} {M R : Mem} (h : Pn c M R) (hc : c ≤ 50000) {n : Nat} (hn : n ≤ 10) :
    ∃ (ts : List Tie) (M' : Mem), BWeb n ts ∧ ts.length ≤ 45 ∧ Pn (c + 100) M' R ∧ F__law_bare [.ref 0, .int n] M = .ok (webD n ts) M' := by
  obtain ⟨ts, M', w, hb, h55, h45, p, e⟩ := eq_some_web h hc false hn
  have hs : startD 2 [.ref 0, .int n] = [some (.ref 0), some (.int n)] := rfl
  have hl := h45 rfl
  refine ⟨ts, dropM M (webD n ts) M', ⟨w, hb rfl, hn, by omega⟩, hl, by rw [dropM_same (by rw [h.len, p.len])]; exact p, ?_⟩
  unfold F__law_bare defF
  rw [hs]
  simp only [B__law_bare, ev_ret, ev_call, ev_cons, ev_var, ev_C, List.getElem?_cons_zero, List.getElem?_cons_succ, Rs.bind_ok, ev_nil, List.length_cons, List.length_nil, Nat.reduceAdd, if_true, e, Rs.stm_ok]
theorem itm_nats {ns : List Nat} (h : ∀ q ∈ ns, q ≤ 20) : ∀ x ∈ natsD ns, Itm x := fun x hx => by
  obtain ⟨q, hq, rfl⟩ := List.mem_map.mp hx
  exact .nat q (h q hq)
/-- few colours -/
theorem few_comp {R : Mem} (n : Nat) (hn : n ≤ 10) (x0 x2 x3 x4 x5 x6 x7 x8 x9 x10 x11 x12 x13 x14 x16 x17 x18 x19 : Option D) (c : Int) (hc : c ≤ 1000000) (M : Mem) (h : Pn c M R) :
    ∃ (ns : List Nat) (M' : Mem), (∀ q ∈ ns, q ≤ 20) ∧ ns.length ≤ 10 ∧ Pn (c + 10) M' R ∧
      compL (gN 15) tYes' (eCall 2 F__law_draw (aCons (eVar 1) (aCons (eC (.int 3)) aNil))) [x0, some (.ref 0), x2, x3, x4, x5, x6, x7, x8, x9, x10, x11, x12, x13, x14, none, x16, x17, x18, x19] ((List.range n).map fun (i : Nat) => D.int i) M [] = .ok (natsD ns) M' := by
  obtain ⟨ys, M', e, ⟨ns, rfl, h2, h3⟩, hl⟩ := compL_inv (gm := gN 15) (tt := tYes') (el := eCall 2 F__law_draw (aCons (eVar 1) (aCons (eC (.int 3)) aNil))) (δ := [x0, some (.ref 0), x2, x3, x4, x5, x6, x7, x8, x9, x10, x11, x12, x13, x14, none, x16, x17, x18, x19]) (items := (List.range n).map fun (i : Nat) => D.int i) (M := M)
    (fun i M' acc => ∃ ns : List Nat, acc = natsD ns ∧ (∀ q ∈ ns, q ≤ 20) ∧ Pn (c + i) M' R) ⟨[], rfl, (fun t ht => by simp at ht), h.mono (by omega)⟩ (by simp; omega) (fun i d M' acc hd ⟨ns, h1, h2, h3⟩ => by
      have hi : i < n := by have := (List.getElem?_eq_some_iff.mp hd).1; simpa using this
      obtain ⟨k, M1, hk, hP1, e1⟩ := drawP h3 (by omega) (many := 3) (by omega) (by omega)
      have e1' : F__law_draw [.ref 0, .int 3] M' = .ok (.int k) M1 := e1
      refine ⟨_, M', true, M', rfl, rfl, (fun z => nomatch z), fun _ => ⟨.int k, M1, ?_, ns ++ [k], by rw [h1, natsD, natsD, List.map_append]; rfl, fun q hq => ?_, hP1.mono (by push_cast; omega)⟩⟩
      · simp only [ev_call, ev_cons, ev_var, List.set_cons_succ, List.set_cons_zero, List.getElem?_cons_zero, List.getElem?_cons_succ, Rs.bind_ok, ev_C, ev_nil, List.length_cons, List.length_nil, if_true, e1', Nat.reduceAdd]
      · rcases List.mem_append.mp hq with hq | hq
        · exact h2 q hq
        · simp at hq; omega)
  simp only [List.length_map, List.length_range] at h3 hl
  exact ⟨ns, M', h2, by rw [natsD_len] at hl; omega, h3.mono (by omega), e⟩
/-! ways made -/
def Wy (ws : List D) (m L : Nat) : Prop := (∀ v ∈ ws, ∃ l : List Nat, v = .tup (natsD l) ∧ l.length ≤ L ∧ ∀ q ∈ l, q ≤ 20) ∧ ws.length ≤ m
theorem Wy.vl {ws : List D} {m L : Nat} (h : Wy ws m L) (hL : L ≤ 100) : ∀ v ∈ ws, Vl v := fun v hv => by
  obtain ⟨l, rfl, h1, h2⟩ := h.1 v hv
  exact .tup _ (itm_nats h2) (by rw [natsD_len]; omega)
def extW (n : Nat) : D → List D
  | .tup xs => (List.range n).map fun (q : Nat) => .tup (xs ++ [.int q])
  | _ => []
theorem ext_len (n : Nat) : ∀ cs : List D, (cs.map (extW n)).flatten.length ≤ n * cs.length
  | [] => by simp
  | d :: cs => by
    have ih := ext_len n cs
    have : (extW n d).length ≤ n := by cases d <;> simp [extW]
    rw [List.map_cons, List.flatten_cons, List.length_append, List.length_cons, Nat.mul_succ]
    omega
theorem getLs_map (M : Mem) (f : D → List D) : ∀ cs : List D, getLs M (cs.map fun d => D.lst (f d)) = some (cs.map f)
  | [] => rfl
  | d :: cs => by rw [List.map_cons, getLs, getLs_map M f cs]; rfl
theorem for3_ok (M : Mem) {n : Nat} (hn : n ≤ 10) {ws : List D} {m L : Nat} (hw : Wy ws m L) (hm : m ≤ 60) (hL : L ≤ 50) (x0 x1 x2 x3 x4 x5 x6 x8 x9 x10 x12 x13 x14 x15 x16 x17 x18 x19 : Option D) :
    ∃ ws', Wy ws' (m + 9) (L + 1) ∧ B_law_for3 [x0, x1, x2, x3, x4, x5, x6, some (.lst ws), x8, x9, x10, some (.int n), x12, x13, x14, x15, x16, x17, x18, x19] M =
      .nx [x0, x1, x2, x3, x4, x5, x6, some (.lst ws'), x8, x9, x10, some (.int n), x12, x13, x14, x15, x16, x17, x18, x19] M := by
  have k := cut_sub (ds := ws) (lo := some (-3)) (hi := none)
  generalize hcs : cutD ws (some (-3)) none = cs at k
  have hcl : cs.length ≤ 60 := by have := hw.2; omega
  have sl : sliceD true (.lst ws) (some (-3)) none M = .ok (.lst cs) M := by
    show mkL true (cutD ws (some (-3)) none) M = _
    rw [hcs]
    exact mkL_true M _ (by rw [sizeLine_eq]; omega)
  have neg : negD (.int 3) M = .ok (.int (-3)) M := rfl
  have r1 := range1 n (by omega)
  have c1 : compL (gN 16) tYes' (eLc true (aRng rng1 (aCons (eVar 11) aNil)) (gN 19) tYes' (e2 (addD true) (eVar 16) (eTup (aCons (eVar 19) aNil))) [19]) [x0, x1, x2, x3, x4, x5, x6, some (.lst ws), x8, x9, x10, some (.int n), x12, x13, x14, x15, none, x17, x18, x19] cs M [] = .ok (cs.map fun d => .lst (extW n d)) M := by
    have := compL_mapG (M := M) (gm := gN 16) (tt := tYes') (el := eLc true (aRng rng1 (aCons (eVar 11) aNil)) (gN 19) tYes' (e2 (addD true) (eVar 16) (eTup (aCons (eVar 19) aNil))) [19]) (δ := [x0, x1, x2, x3, x4, x5, x6, some (.lst ws), x8, x9, x10, some (.int n), x12, x13, x14, x15, none, x17, x18, x19]) (fun x => x) (fun d => .lst (extW n d)) (l := cs) (acc := []) (by simp; omega) (fun d hd => by
      obtain ⟨l, rfl, hl1, hl2⟩ := hw.1 d (k.1 d hd)
      refine ⟨[x0, x1, x2, x3, x4, x5, x6, some (.lst ws), x8, x9, x10, some (.int n), x12, x13, x14, x15, some (.tup (natsD l)), x17, x18, x19], rfl, rfl, ?_⟩
      have c2 : compL (gN 19) tYes' (e2 (addD true) (eVar 16) (eTup (aCons (eVar 19) aNil))) [x0, x1, x2, x3, x4, x5, x6, some (.lst ws), x8, x9, x10, some (.int n), x12, x13, x14, x15, some (.tup (natsD l)), x17, x18, none] ((List.range n).map fun (i : Nat) => D.int i) M [] = .ok (extW n (.tup (natsD l))) M := by
        have := compL_mapG (M := M) (gm := gN 19) (tt := tYes') (el := e2 (addD true) (eVar 16) (eTup (aCons (eVar 19) aNil))) (δ := [x0, x1, x2, x3, x4, x5, x6, some (.lst ws), x8, x9, x10, some (.int n), x12, x13, x14, x15, some (.tup (natsD l)), x17, x18, none]) (fun (i : Nat) => D.int i) (fun (q : Nat) => .tup (natsD l ++ [.int q])) (l := List.range n) (acc := []) (by simp; omega) (fun q hq => by
          refine ⟨[x0, x1, x2, x3, x4, x5, x6, some (.lst ws), x8, x9, x10, some (.int n), x12, x13, x14, x15, some (.tup (natsD l)), x17, x18, some (.int q)], rfl, rfl, ?_⟩
          have a : addD true (.tup (natsD l)) (.tup [.int q]) M = .ok (.tup (natsD l ++ [.int q])) M := by
            show (if sz _ then Rs.ok (D.tup (natsD l ++ [.int q])) M else .no) = _
            rw [if_pos (sz_of (by rw [natsD_len]; simp; omega))]
          simp only [ev_e2, ev_tup, ev_cons, ev_var, List.getElem?_cons_zero, List.getElem?_cons_succ, Rs.bind_ok, ev_nil, List.length_cons, List.length_nil, Nat.reduceAdd, sz_of (show 1 ≤ 1000000 by omega), if_true, a])
        rw [this, List.nil_append]
        rfl
      have m2 := mkL_true M (extW n (.tup (natsD l))) (by simp [extW, sizeLine_eq]; omega)
      simp only [ev_lc, ev_aRng, ev_cons, ev_var, List.getElem?_cons_zero, List.getElem?_cons_succ, Rs.bind_ok, ev_nil, r1, ofO_some, wipeD, List.set_cons_succ, List.set_cons_zero, c2, m2])
    rw [List.map_id'] at this
    rw [this, List.nil_append]
  have m1 := mkL_true M (cs.map fun d => D.lst (extW n d)) (by rw [List.length_map, sizeLine_eq]; omega)
  have m0 : mkL true ([] : List D) M = .ok (.lst []) M := mkL_true _ _ (Nat.zero_le _)
  have fl := ext_len n cs
  have fl2 : (cs.map (extW n)).flatten.length ≤ 600 := Nat.le_trans fl (Nat.le_trans (Nat.mul_le_mul hn hcl) (by omega))
  have hfi : ∀ v ∈ (cs.map (extW n)).flatten, ∃ l : List Nat, v = .tup (natsD l) ∧ l.length ≤ L + 1 ∧ ∀ q ∈ l, q ≤ 20 := fun v hv => by
    obtain ⟨e, he, hve⟩ := List.mem_flatten.mp hv
    obtain ⟨d, hd, rfl⟩ := List.mem_map.mp he
    obtain ⟨l, rfl, hl1, hl2⟩ := hw.1 d (k.1 d hd)
    obtain ⟨q, hq, rfl⟩ := List.mem_map.mp hve
    have := List.mem_range.mp hq
    refine ⟨l ++ [q], by rw [natsD, natsD, List.map_append]; rfl, by simp; omega, fun z hz => ?_⟩
    rcases List.mem_append.mp hz with hz | hz
    · exact hl2 z hz
    · simp at hz; omega
  have s : sumLsD [.lst (cs.map fun d => D.lst (extW n d)), .lst []] M = .ok (.lst (cs.map (extW n)).flatten) M := by
    simp only [sumLsD, getS, getL, Option.bind_some, getLs_map]
    rw [if_pos (sz_of (by simp only [List.length_nil]; omega)), List.nil_append]
  generalize (cs.map (extW n)).flatten = fs at s fl2 hfi
  have s9 : sliceD true (.lst fs) none (some 9) M = .ok (.lst (fs.take 9)) M := by
    show mkL true (cutD fs none (some ((9 : Nat) : Int))) M = _
    rw [cut_to]
    exact mkL_true M _ (by rw [List.length_take, sizeLine_eq]; omega)
  have a9 : addD true (.lst ws) (.lst (fs.take 9)) M = .ok (.lst (ws ++ fs.take 9)) M := by
    show mkL true (ws ++ fs.take 9) M = _
    exact mkL_true M _ (by rw [List.length_append, List.length_take, sizeLine_eq]; have := hw.2; omega)
  refine ⟨ws ++ fs.take 9, ⟨fun v hv => ?_, by rw [List.length_append, List.length_take]; have := hw.2; omega⟩, ?_⟩
  · rcases List.mem_append.mp hv with hv | hv
    · obtain ⟨l, h1, h2, h3⟩ := hw.1 v hv
      exact ⟨l, h1, by omega, h3⟩
    · exact hfi v (List.mem_of_mem_take hv)
  · unfold B_law_for3
    simp only [ev_asg, ev_e2, ev_slice, ev_B, ev_cons, ev_lc, ev_aOf, ev_oSome, ev_oNo, ev_e1, ev_C, ev_var, List.getElem?_cons_zero, List.getElem?_cons_succ, Rs.bind_ok, neg, sl, itL, ofO_some, wipeD, List.set_cons_succ, List.set_cons_zero, c1, m1, ev_lst, ev_nil, m0, s, s9, a9, Rs.stm_ok, ev_gN, nxO_ok]
end
end Dl

set_option Elab.async false
set_option linter.all false
set_option autoImplicit false
set_option maxRecDepth 100000
set_option maxHeartbeats 4000000
/-! the inner loops over values. -/
namespace Dl
noncomputable section
open PySem PySem.Spec L2
theorem loop1 (M : Mem) {n : Nat} {ts : List Tie} (w : BWeb n ts) (x0 x1 x2 x4 x5 x7 x8 x9 x10 x11 x12 x15 x16 x17 x18 x19 : Option D) : ∀ (l : List D), (∀ v ∈ l, Vl v) → ∀ x6 x13 x14 : Option D, ∃ y6 y13 y14 : Option D, forL (gN 6) B_law_for1 l [x0, x1, x2, some (webD n ts), x4, x5, x6, x7, x8, x9, x10, x11, x12, x13, x14, x15, x16, x17, x18, x19] M = .nx [x0, x1, x2, some (webD n ts), x4, x5, y6, x7, x8, x9, x10, x11, x12, y13, y14, x15, x16, x17, x18, x19] M
  | [], _, x6, x13, x14 => ⟨x6, x13, x14, by rw [forL]⟩
  | v :: l, h, x6, x13, x14 => by
    obtain ⟨z13, z14, e⟩ := for1_ok M w (h v List.mem_cons_self) x0 x1 x2 x4 x5 x7 x8 x9 x10 x11 x12 x13 x14 x15 x16 x17 x18 x19
    obtain ⟨y6, y13, y14, ih⟩ := loop1 M w x0 x1 x2 x4 x5 x7 x8 x9 x10 x11 x12 x15 x16 x17 x18 x19 l (fun u hu => h u (List.mem_cons_of_mem _ hu)) (some v) z13 z14
    have eg : gN 6 v [x0, x1, x2, some (webD n ts), x4, x5, x6, x7, x8, x9, x10, x11, x12, x13, x14, x15, x16, x17, x18, x19] M = .ok [x0, x1, x2, some (webD n ts), x4, x5, some v, x7, x8, x9, x10, x11, x12, x13, x14, x15, x16, x17, x18, x19] M := rfl
    refine ⟨y6, y13, y14, ?_⟩
    rw [forL, eg]
    simp only [e]
    exact ih
theorem loop2 (M : Mem) {n : Nat} {ts : List Tie} (w : BWeb n ts) (x0 x1 x2 x4 x5 x7 x8 x9 x10 x11 x12 x14 x15 x16 x17 x18 x19 : Option D) : ∀ (l : List D), (∀ v ∈ l, Vl v) → ∀ x6 x13 : Option D, ∃ y6 y13 : Option D, forL (gN 6) B_law_for2 l [x0, x1, x2, some (webD n ts), x4, x5, x6, x7, x8, x9, x10, x11, x12, x13, x14, x15, x16, x17, x18, x19] M = .nx [x0, x1, x2, some (webD n ts), x4, x5, y6, x7, x8, x9, x10, x11, x12, y13, x14, x15, x16, x17, x18, x19] M
  | [], _, x6, x13 => ⟨x6, x13, by rw [forL]⟩
  | v :: l, h, x6, x13 => by
    obtain ⟨z13, e⟩ := for2_ok M w w.hn (h v List.mem_cons_self) x0 x1 x2 x4 x5 x7 x8 x9 x10 x11 x12 x13 x14 x15 x16 x17 x18 x19
    obtain ⟨y6, y13, ih⟩ := loop2 M w x0 x1 x2 x4 x5 x7 x8 x9 x10 x11 x12 x14 x15 x16 x17 x18 x19 l (fun u hu => h u (List.mem_cons_of_mem _ hu)) (some v) z13
    have eg : gN 6 v [x0, x1, x2, some (webD n ts), x4, x5, x6, x7, x8, x9, x10, x11, x12, x13, x14, x15, x16, x17, x18, x19] M = .ok [x0, x1, x2, some (webD n ts), x4, x5, some v, x7, x8, x9, x10, x11, x12, x13, x14, x15, x16, x17, x18, x19] M := rfl
    refine ⟨y6, y13, ?_⟩
    rw [forL, eg]
    simp only [e]
    exact ih
theorem loop4 (M : Mem) {n : Nat} {ts ps : List Tie} (w : BWeb n ts) (hps : ps.length ≤ 200) (hd : F_is_direction_in [webD n ts, .tup (ps.map tieD)] M = .ok (.bl true) M) (x0 x1 x2 x4 x5 x7 x8 x9 x10 x11 x13 x14 x15 x16 x17 x18 x19 : Option D) : ∀ (l : List D), (∀ v ∈ l, Vl v) → ∀ x6 : Option D, ∃ y6 : Option D, forL (gN 6) B_law_for4 l [x0, x1, x2, some (webD n ts), x4, x5, x6, x7, x8, x9, x10, x11, some (.tup (ps.map tieD)), x13, x14, x15, x16, x17, x18, x19] M = .nx [x0, x1, x2, some (webD n ts), x4, x5, y6, x7, x8, x9, x10, x11, some (.tup (ps.map tieD)), x13, x14, x15, x16, x17, x18, x19] M
  | [], _, x6 => ⟨x6, by rw [forL]⟩
  | v :: l, h, x6 => by
    have e := for4_ok M w hps hd (h v List.mem_cons_self) x0 x1 x2 x4 x5 x7 x8 x9 x10 x11 x13 x14 x15 x16 x17 x18 x19
    obtain ⟨y6, ih⟩ := loop4 M w hps hd x0 x1 x2 x4 x5 x7 x8 x9 x10 x11 x13 x14 x15 x16 x17 x18 x19 l (fun u hu => h u (List.mem_cons_of_mem _ hu)) (some v)
    have eg : gN 6 v [x0, x1, x2, some (webD n ts), x4, x5, x6, x7, x8, x9, x10, x11, some (.tup (ps.map tieD)), x13, x14, x15, x16, x17, x18, x19] M = .ok [x0, x1, x2, some (webD n ts), x4, x5, some v, x7, x8, x9, x10, x11, some (.tup (ps.map tieD)), x13, x14, x15, x16, x17, x18, x19] M := rfl
    refine ⟨y6, ?_⟩
    rw [forL, eg]
    simp only [e]
    exact ih
theorem loop3 (M : Mem) {n : Nat} (hn : n ≤ 10) (x0 x1 x2 x3 x4 x5 x6 x9 x10 x12 x13 x14 x15 x16 x17 x18 x19 : Option D) : ∀ (l : List D) {ws : List D} {m L : Nat}, Wy ws m L → m + 9 * l.length ≤ 60 → L + l.length ≤ 50 → ∀ x8 : Option D, ∃ (ws' : List D) (y8 : Option D), Wy ws' (m + 9 * l.length) (L + l.length) ∧ forL (gN 8) B_law_for3 l [x0, x1, x2, x3, x4, x5, x6, some (.lst ws), x8, x9, x10, some (.int n), x12, x13, x14, x15, x16, x17, x18, x19] M = .nx [x0, x1, x2, x3, x4, x5, x6, some (.lst ws'), y8, x9, x10, some (.int n), x12, x13, x14, x15, x16, x17, x18, x19] M
  | [], ws, m, L, hw, hm, hL, x8 => ⟨ws, x8, hw, by rw [forL]⟩
  | v :: l, ws, m, L, hw, hm, hL, x8 => by
    rw [List.length_cons] at hm hL
    obtain ⟨ws1, hw1, e⟩ := for3_ok M hn hw (by omega) (by omega) x0 x1 x2 x3 x4 x5 x6 (some v) x9 x10 x12 x13 x14 x15 x16 x17 x18 x19
    obtain ⟨ws', y8, hw', ih⟩ := loop3 M hn x0 x1 x2 x3 x4 x5 x6 x9 x10 x12 x13 x14 x15 x16 x17 x18 x19 l hw1 (by omega) (by omega) (some v)
    have eg : gN 8 v [x0, x1, x2, x3, x4, x5, x6, some (.lst ws), x8, x9, x10, some (.int n), x12, x13, x14, x15, x16, x17, x18, x19] M = .ok [x0, x1, x2, x3, x4, x5, x6, some (.lst ws), some v, x9, x10, some (.int n), x12, x13, x14, x15, x16, x17, x18, x19] M := rfl
    refine ⟨ws', y8, ⟨fun u hu => ?_, ?_⟩, ?_⟩
    · obtain ⟨q, q1, q2, q3⟩ := hw'.1 u hu
      exact ⟨q, q1, by rw [List.length_cons]; omega, q3⟩
    · have := hw'.2
      rw [List.length_cons]
      omega
    · rw [forL, eg]
      simp only [e]
      exact ih
theorem refuses_all : ∀ k, k < 4 → Refuses k := fun k hk => by
  match k, hk with
  | 0, _ => exact refuses0
  | 1, _ => exact refuses1
  | 2, _ => exact refuses2
  | 3, _ => exact refuses3
theorem calls_comp {R : Mem} {n : Nat} {ts : List Tie} (w : BWeb n ts) (x0 x2 x4 x5 x6 x7 x8 x9 x10 x11 x12 x13 x14 x15 x16 x18 x19 : Option D) (c : Int) (hc : c ≤ 50000) (M : Mem) (h : Pn c M R) :
    ∃ M', Pn (c + 80) M' R ∧ compL (gN 17) (bNot (tTru (eCall 3 F__law_refused_right (aCons (eVar 1) (aCons (eVar 3) (aCons (eVar 17) aNil)))))) (eVar 17) [x0, some (.ref 0), x2, some (webD n ts), x4, x5, x6, x7, x8, x9, x10, x11, x12, x13, x14, x15, x16, none, x18, x19] ((List.range 4).map D.lam) M [] = .ok [] M' := by
  obtain ⟨ys, M', e, ⟨rfl, h3⟩, hl⟩ := compL_inv (gm := gN 17) (tt := bNot (tTru (eCall 3 F__law_refused_right (aCons (eVar 1) (aCons (eVar 3) (aCons (eVar 17) aNil)))))) (el := eVar 17) (δ := [x0, some (.ref 0), x2, some (webD n ts), x4, x5, x6, x7, x8, x9, x10, x11, x12, x13, x14, x15, x16, none, x18, x19]) (items := (List.range 4).map D.lam) (M := M)
    (fun i M' acc => acc = [] ∧ Pn (c + 20 * i) M' R) ⟨rfl, h.mono (by omega)⟩ (by simp) (fun i d M' acc hd ⟨h1, h3⟩ => by
      have hi : i < 4 := by have := (List.getElem?_eq_some_iff.mp hd).1; simpa using this
      rw [List.getElem?_map, List.getElem?_range hi] at hd
      cases hd
      obtain ⟨M1, P1, e1⟩ := eq_refused h3 (by omega) w (refuses_all i hi)
      refine ⟨[x0, some (.ref 0), x2, some (webD n ts), x4, x5, x6, x7, x8, x9, x10, x11, x12, x13, x14, x15, x16, some (.lam i), x18, x19], M', false, M1, rfl, ?_, fun _ => ⟨h1, P1.mono (by push_cast; omega)⟩, (fun z => nomatch z)⟩
      simp only [ev_bNot, ev_tTru, ev_call, ev_cons, ev_var, List.getElem?_cons_zero, List.getElem?_cons_succ, Rs.bind_ok, ev_nil, List.length_cons, List.length_nil, Nat.reduceAdd, if_true, e1, tru_bl, ofO_some, Bool.not_true])
  simp only [List.length_map, List.length_range] at h3
  exact ⟨M', h3.mono (by omega), e⟩
end
end Dl

set_option Elab.async false
set_option linter.all false
set_option autoImplicit false
set_option maxRecDepth 100000
set_option maxHeartbeats 4000000
/-! a turn. -/
namespace Dl
noncomputable section
open PySem PySem.Spec L2
theorem wy_one (n : Nat) (hn : n ≤ 10) : Wy ((List.range n).map fun (q : Nat) => D.tup [.int q]) 10 1 := by
  refine ⟨fun v hv => ?_, by simp; omega⟩
  obtain ⟨q, hq, rfl⟩ := List.mem_map.mp hv
  have := List.mem_range.mp hq
  exact ⟨[q], rfl, by simp, fun z hz => by simp at hz; omega⟩
def headW : D → D
  | .tup xs => .tup (xs ++ cutD xs none (some 1))
  | d => d
theorem head_vl {ws : List D} {m L : Nat} (h : Wy ws m L) (hL : L ≤ 40) : ∀ v ∈ ws, Vl (headW v) := fun v hv => by
  obtain ⟨l, rfl, h1, h2⟩ := h.1 v hv
  have k := cut_sub (ds := natsD l) (lo := none) (hi := some 1)
  rw [natsD_len] at k
  exact .tup _ (fun x hx => by
    rcases List.mem_append.mp hx with hx | hx
    · exact itm_nats h2 x hx
    · exact itm_nats h2 x (k.1 x hx)) (by rw [List.length_append, natsD_len]; omega)
theorem for5_ok {R : Mem} {c : Int} {M : Mem} (hP : Pn c M R) (hc : c ≤ 20000) (x0 x2 x3 x4 x5 x6 x7 x8 x9 x10 x11 x12 x13 x14 x15 x16 x17 x18 x19 : Option D) :
    ∃ (y3 y4 y5 y6 y7 y8 y9 y10 y11 y12 y13 y14 y15 y16 y17 y18 y19 : Option D) (R' M' : Mem), Pn (c + 1000) M' R' ∧ B_law_for5 [x0, some (.ref 0), x2, x3, x4, x5, x6, x7, x8, x9, x10, x11, x12, x13, x14, x15, x16, x17, x18, x19] M = .nx [x0, some (.ref 0), x2, y3, y4, y5, y6, y7, y8, y9, y10, y11, y12, y13, y14, y15, y16, y17, y18, y19] M' := by
  obtain ⟨n, M1, hn9, p1, ea⟩ := drawP hP (by omega) (many := 9) (by omega) (by omega)
  have ea' : F__law_draw [.ref 0, .int 9] M = .ok (.int n) M1 := ea
  obtain ⟨ts, M2, w, hl, p2, eb⟩ := eq_bare p1 (by omega) (n := n) (by omega)
  obtain ⟨ps, M3, hpl, hz, p3, e3⟩ := eq_law_direction p2 (by omega) w hl
  have e4 : (n : Int) + 2 = ((n + 2 : Nat) : Int) := by omega
  obtain ⟨row, M4, hrow, p4, e5⟩ := eq_shuffled p3 (List.range (n + 2)) (by simp; omega) (by omega)
  rw [List.length_range] at p4
  have lr : listRg true 0 ((n + 2 : Nat) : Int) M3 = .ok (.lst (natsD (List.range (n + 2)))) M3 := by
    have e : ∀ m : Nat, rngD 0 (m : Int) = natsD (List.range m) := fun m => by simp [rngD, natsD]
    unfold listRg
    rw [if_pos (by unfold rgOk; simp; omega), e, mkL_true _ _ (by simp [natsD, sizeLine_eq]; omega)]
  have hrl : row.length = n + 2 := by rw [hrow.length_eq, List.length_range]
  have hrb : ∀ q ∈ row.take n, q ≤ 20 := fun q hq => by
    have := List.mem_range.mp (hrow.mem_iff.mp (List.mem_of_mem_take hq))
    omega
  have s5 : sliceD true (.lst (natsD row)) none (some (n : Int)) M4 = .ok (.lst (natsD (row.take n))) M4 := by
    show mkL true (cutD (natsD row) none (some (n : Int))) M4 = _
    rw [cut_to]
    have : (natsD row).take n = natsD (row.take n) := by simp [natsD]
    rw [this]
    exact mkL_true M4 _ (by rw [natsD_len, List.length_take, sizeLine_eq]; omega)
  have hhl : (row.take n).length ≤ 45 := by rw [List.length_take]; omega
  generalize row.take n = hs at hrb s5 hhl
  obtain ⟨fw, M5, hfw, hfl, p5, e6⟩ := few_comp n (by omega) (x0) (x2) (some (webD n ts)) (some (.tup (natsD hs))) (x5) (x6) (x7) (x8) (x9) (x10) (some (.int n)) (some (.tup (ps.map tieD))) (x13) (x14) (x16) (x17) (x18) (x19) (c + 1 + 100 + 45 + (n + 2 : Nat)) (by push_cast; omega) M4 p4
  have r1 := range1 n (by omega)
  have m5 := mkL_true M5 (natsD fw) (by rw [natsD_len, sizeLine_eq]; omega)
  obtain ⟨bs, M6, hbs, hbl, p6, e7⟩ := eq_bent p5 (by push_cast; omega) (itm_nats hrb) (by rw [natsD_len]; omega)
  have m6 := mkL_true M5 [D.tup (natsD hs), .tup (natsD fw)] (by simp [sizeLine_eq])
  have a6 : addD true (.lst [D.tup (natsD hs), .tup (natsD fw)]) (.lst bs) M6 = .ok (.lst ([D.tup (natsD hs), .tup (natsD fw)] ++ bs)) M6 := by
    show mkL true ([D.tup (natsD hs), .tup (natsD fw)] ++ bs) M6 = _
    exact mkL_true M6 _ (by rw [List.length_append, sizeLine_eq]; simp; omega)
  obtain ⟨y6, y13, y14, e8⟩ := loop1 M6 w (x0) (some (.ref 0)) (x2) (some (.tup (natsD hs))) (some (.tup (natsD fw))) (x7) (x8) (x9) (x10) (some (.int n)) (some (.tup (ps.map tieD))) (x15) (x16) (x17) (x18) (x19) ([D.tup (natsD hs), .tup (natsD fw)] ++ bs) (fun v hv => by
    rcases List.mem_append.mp hv with hv | hv
    · simp only [List.mem_cons, List.not_mem_nil, or_false] at hv
      rcases hv with rfl | rfl
      · exact .tup _ (itm_nats hrb) (by rw [natsD_len]; omega)
      · exact .tup _ (itm_nats hfw) (by rw [natsD_len]; omega)
    · exact hbs v hv) x6 x13 x14
  obtain ⟨hdi, hdt⟩ := dir_true M6 w hl hpl hz
  obtain ⟨ds, M7, hds, hdl, p7, e9⟩ := eq_bent p6 (by push_cast; omega) hdi (by rw [List.length_map]; omega)
  have m7 := mkL_true M6 [D.tup (ps.map tieD), .tup (ts.map tieD)] (by simp [sizeLine_eq])
  have a7 : addD true (.lst [D.tup (ps.map tieD), .tup (ts.map tieD)]) (.lst ds) M7 = .ok (.lst ([D.tup (ps.map tieD), .tup (ts.map tieD)] ++ ds)) M7 := by
    show mkL true ([D.tup (ps.map tieD), .tup (ts.map tieD)] ++ ds) M7 = _
    exact mkL_true M7 _ (by rw [List.length_append, sizeLine_eq]; simp; omega)
  have hti : ∀ x ∈ ts.map tieD, Itm x := fun x hx => by
    obtain ⟨t, ht, rfl⟩ := List.mem_map.mp hx
    have := w.w.ok t ht
    exact .two t.1 t.2 (by omega) (by omega)
  obtain ⟨z6, z13, e10⟩ := loop2 M7 w (x0) (some (.ref 0)) (x2) (some (.tup (natsD hs))) (some (.tup (natsD fw))) (x7) (x8) (x9) (x10) (some (.int n)) (some (.tup (ps.map tieD))) (y14) (x15) (x16) (x17) (x18) (x19) ([D.tup (ps.map tieD), .tup (ts.map tieD)] ++ ds) (fun v hv => by
    rcases List.mem_append.mp hv with hv | hv
    · simp only [List.mem_cons, List.not_mem_nil, or_false] at hv
      rcases hv with rfl | rfl
      · exact .tup _ hdi (by rw [List.length_map]; omega)
      · exact .tup _ hti (by rw [List.length_map]; omega)
    · exact hds v hv) y6 y13
  have c7 : compL (gN 15) tYes' (eTup (aCons (eVar 15) aNil)) [x0, some (.ref 0), x2, some (webD n ts), some (.tup (natsD hs)), some (.tup (natsD fw)), z6, x7, x8, x9, x10, some (.int n), some (.tup (ps.map tieD)), z13, y14, none, x16, x17, x18, x19] ((List.range n).map fun (i : Nat) => D.int i) M7 [] = .ok ((List.range n).map fun (q : Nat) => D.tup [.int q]) M7 := by
    have := compL_mapG (M := M7) (gm := gN 15) (tt := tYes') (el := eTup (aCons (eVar 15) aNil)) (δ := [x0, some (.ref 0), x2, some (webD n ts), some (.tup (natsD hs)), some (.tup (natsD fw)), z6, x7, x8, x9, x10, some (.int n), some (.tup (ps.map tieD)), z13, y14, none, x16, x17, x18, x19]) (fun (i : Nat) => D.int i) (fun (q : Nat) => D.tup [.int q]) (l := List.range n) (acc := []) (by simp; omega) (fun q hq => ⟨[x0, some (.ref 0), x2, some (webD n ts), some (.tup (natsD hs)), some (.tup (natsD fw)), z6, x7, x8, x9, x10, some (.int n), some (.tup (ps.map tieD)), z13, y14, some (.int q), x16, x17, x18, x19], rfl, rfl, by
      simp only [ev_tup, ev_cons, ev_var, List.getElem?_cons_zero, List.getElem?_cons_succ, Rs.bind_ok, ev_nil, List.length_cons, List.length_nil, Nat.reduceAdd, sz_of (show 1 ≤ 1000000 by omega), if_true]⟩)
    rw [this, List.nil_append]
  have wy := wy_one n (by omega)
  have mw := mkL_true M7 ((List.range n).map fun (q : Nat) => D.tup [.int q]) (by simp [sizeLine_eq]; omega)
  generalize ((List.range n).map fun (q : Nat) => D.tup [.int q]) = ws0 at c7 wy mw
  have r3 : rng1 [.int 3] = some ((List.range 3).map fun (i : Nat) => D.int i) := range1 3 (by omega)
  obtain ⟨ws, y8, hws, e11⟩ := loop3 M7 (n := n) (by omega) (x0) (some (.ref 0)) (x2) (some (webD n ts)) (some (.tup (natsD hs))) (some (.tup (natsD fw))) (z6) (x9) (x10) (some (.tup (ps.map tieD))) (z13) (y14) (x15) (x16) (x17) (x18) (x19) ((List.range 3).map fun (i : Nat) => D.int i) wy (by simp) (by simp) x8
  simp only [List.length_map, List.length_range, Nat.reduceAdd, Nat.reduceMul] at hws
  have k3 := cut_sub (ds := ws) (lo := some (-3)) (hi := none)
  generalize hcs : cutD ws (some (-3)) none = cs at k3
  have hcl : cs.length ≤ 40 := by have := hws.2; omega
  have wcs : Wy cs 40 4 := ⟨fun v hv => hws.1 v (k3.1 v hv), hcl⟩
  have sl3 : sliceD true (.lst ws) (some (-3)) none M7 = .ok (.lst cs) M7 := by
    show mkL true (cutD ws (some (-3)) none) M7 = _
    rw [hcs]
    exact mkL_true M7 _ (by rw [sizeLine_eq]; omega)
  have neg3 : negD (.int 3) M7 = .ok (.int (-3)) M7 := rfl
  have c8 : compL (gN 16) tYes' (e2 (addD true) (eVar 16) (eSlice true (eVar 16) oNo (oSome (eC (.int 1))))) [x0, some (.ref 0), x2, some (webD n ts), some (.tup (natsD hs)), some (.tup (natsD fw)), z6, some (.lst ws), y8, x9, x10, some (.int n), some (.tup (ps.map tieD)), z13, y14, x15, none, x17, x18, x19] cs M7 [] = .ok (cs.map headW) M7 := by
    have := compL_mapG (M := M7) (gm := gN 16) (tt := tYes') (el := e2 (addD true) (eVar 16) (eSlice true (eVar 16) oNo (oSome (eC (.int 1))))) (δ := [x0, some (.ref 0), x2, some (webD n ts), some (.tup (natsD hs)), some (.tup (natsD fw)), z6, some (.lst ws), y8, x9, x10, some (.int n), some (.tup (ps.map tieD)), z13, y14, x15, none, x17, x18, x19]) (fun x => x) headW (l := cs) (acc := []) (by simp; omega) (fun v hv => by
      refine ⟨[x0, some (.ref 0), x2, some (webD n ts), some (.tup (natsD hs)), some (.tup (natsD fw)), z6, some (.lst ws), y8, x9, x10, some (.int n), some (.tup (ps.map tieD)), z13, y14, x15, some v, x17, x18, x19], rfl, rfl, ?_⟩
      obtain ⟨l, rfl, h1, h2⟩ := wcs.1 v hv
      have k := cut_sub (ds := natsD l) (lo := none) (hi := some 1)
      rw [natsD_len] at k
      have sl : sliceD true (.tup (natsD l)) none (some 1) M7 = .ok (.tup (cutD (natsD l) none (some 1))) M7 := rfl
      have a : addD true (.tup (natsD l)) (.tup (cutD (natsD l) none (some 1))) M7 = .ok (headW (.tup (natsD l))) M7 := by
        show (if sz _ then Rs.ok (D.tup (natsD l ++ cutD (natsD l) none (some 1))) M7 else .no) = _
        rw [if_pos (sz_of (by rw [natsD_len]; omega))]
        rfl
      simp only [ev_e2, ev_var, ev_slice, ev_oNo, ev_oSome, ev_C, List.getElem?_cons_zero, List.getElem?_cons_succ, Rs.bind_ok, sl, a])
    rw [List.map_id'] at this
    rw [this, List.nil_append]
  have m8 := mkL_true M7 (cs.map headW) (by rw [List.length_map, sizeLine_eq]; omega)
  have m9 : mkL true [D.int 0] M7 = .ok (.lst [D.int 0]) M7 := mkL_true M7 _ (by simp [sizeLine_eq])
  have m10 : mkL true [D.non, .tup [], .tup [.int n], .lst [.int 0], .tup [.bl true], .tup [.str "0"]] M7 = .ok (.lst [D.non, .tup [], .tup [.int n], .lst [.int 0], .tup [.bl true], .tup [.str "0"]]) M7 := mkL_true M7 _ (by simp [sizeLine_eq])
  have hfirst : ∀ v ∈ [D.non, .tup [], .tup [.int n], .lst [.int 0], .tup [.bl true], .tup [.str "0"]], Vl v := fun v hv => by
    simp only [List.mem_cons, List.not_mem_nil, or_false] at hv
    rcases hv with rfl | rfl | rfl | rfl | rfl | rfl
    · exact .non
    · exact .tup [] (fun x hx => by simp at hx) (by simp)
    · exact .tup _ (fun x hx => by simp at hx; subst hx; exact .nat n (by omega)) (by simp)
    · exact .lst _ (fun x hx => by simp at hx; subst hx; exact .nat 0 (by omega)) (by simp)
    · exact .tup _ (fun x hx => by simp at hx; subst hx; exact .tr) (by simp)
    · exact .tup _ (fun x hx => by simp at hx; subst hx; exact .str) (by simp)
  generalize hfl6 : [D.non, .tup [], .tup [.int n], .lst [.int 0], .tup [.bl true], .tup [.str "0"]] = f6 at m10 hfirst
  have l6 : f6.length = 6 := by rw [← hfl6]; rfl
  have a8 : addD true (.lst f6) (.lst ws) M7 = .ok (.lst (f6 ++ ws)) M7 := by
    show mkL true (f6 ++ ws) M7 = _
    exact mkL_true M7 _ (by rw [List.length_append, sizeLine_eq]; have := hws.2; omega)
  have a9 : addD true (.lst (f6 ++ ws)) (.lst (cs.map headW)) M7 = .ok (.lst (f6 ++ ws ++ cs.map headW)) M7 := by
    show mkL true (f6 ++ ws ++ cs.map headW) M7 = _
    exact mkL_true M7 _ (by rw [List.length_append, List.length_append, List.length_map, sizeLine_eq]; have := hws.2; omega)
  have z20 : ∀ k, k ≤ 20 → sz k = true := fun k hk => sz_of (by omega)
  obtain ⟨hdi7, hdt7⟩ := dir_true M7 w hl hpl hz
  obtain ⟨u6, e12⟩ := loop4 M7 w (by omega) hdt7 (x0) (some (.ref 0)) (x2) (some (.tup (natsD hs))) (some (.tup (natsD fw))) (some (.lst ws)) (y8) (some (.lst (f6 ++ ws ++ cs.map headW))) (x10) (some (.int n)) (z13) (y14) (x15) (x16) (x17) (x18) (x19) (f6 ++ ws ++ cs.map headW) (fun v hv => by
    rcases List.mem_append.mp hv with hv | hv
    · rcases List.mem_append.mp hv with hv | hv
      · exact hfirst v hv
      · exact hws.vl (by omega) v hv
    · obtain ⟨u, hu, rfl⟩ := List.mem_map.mp hv
      exact head_vl wcs (by omega) u hu) z6
  have lM := p7.len
  obtain ⟨cs', a', r', hM7, hcs'⟩ := p7
  have q0 : mkL false [D.lam 0] M7 = .ok (.ref (R.length + 1)) (penO cs' a' r' :: (R ++ [.lst [D.lam 0]])) := by rw [mkL_false _ _ (by simp [sizeLine_eq]), lM, hM7]; rfl
  have gg : ∀ l : List D, (penO cs' a' r' :: (R ++ [.lst l]))[R.length + 1]? = some (.lst l) := fun l => by
    rw [List.getElem?_cons_succ, List.getElem?_append_right (Nat.le_refl _)]; simp
  have gl : ∀ l : List D, getL (penO cs' a' r' :: (R ++ [.lst l])) (.ref (R.length + 1)) = some l := fun l => by simp only [getL, gg]
  have ap : ∀ (l : List D) (d : D), l.length ≤ 10 → appendD (.ref (R.length + 1)) [d] (penO cs' a' r' :: (R ++ [.lst l])) = .ok .non (penO cs' a' r' :: (R ++ [.lst (l ++ [d])])) := fun l d hl => by
    simp only [appendD, refL, gg]
    rw [if_pos (by have := sizeLine_eq; simp; omega), List.set_cons_succ, List.set_append_right _ _ (Nat.le_refl _)]
    simp
  have fz : ∀ l : List D, fzM (.ref (R.length + 1)) (penO cs' a' r' :: (R ++ [.lst l])) = .ok (.lst l) (penO cs' a' r' :: (R ++ [.dead])) := fun l => by
    simp only [fzM, gg]
    rw [List.set_cons_succ, List.set_append_right _ _ (Nat.le_refl _)]
    simp
  have p8 : Pn (c + 1 + 100 + 45 + ((n + 2 : Nat) : Int) + 10 + 10 + 10) (penO cs' a' r' :: (R ++ [.dead])) (R ++ [.dead]) := ⟨cs', a', r', rfl, hcs'⟩
  have a1' := ap [.lam 0] (.lam 1) (by simp)
  have a2' := ap [.lam 0, .lam 1] (.lam 2) (by simp)
  have a3' := ap [.lam 0, .lam 1, .lam 2] (.lam 3) (by simp)
  simp only [List.cons_append, List.nil_append] at a1' a2' a3'
  obtain ⟨M9, p9, e13⟩ := calls_comp w (x0) (x2) (some (.tup (natsD hs))) (some (.tup (natsD fw))) (u6) (some (.lst ws)) (y8) (some (.lst (f6 ++ ws ++ cs.map headW))) (some (.ref (R.length + 1))) (some (.int n)) (some (.tup (ps.map tieD))) (z13) (y14) (x15) (x16) (x18) (x19) _ (by push_cast; omega) _ p8
  have e13' := e13
  simp only [List.range, List.range.loop, List.map_cons, List.map_nil] at e13'
  have m0 : mkL true ([] : List D) M9 = .ok (.lst []) M9 := mkL_true _ _ (Nat.zero_le _)
  have n0 := ev_neNil M9 true []
  simp only [List.map_nil, List.isEmpty_nil, Bool.not_true, if_true] at n0
  refine ⟨some (webD n ts), some (.tup (natsD hs)), some (.tup (natsD fw)), u6, some (.lst ws), y8, some (.lst (f6 ++ ws ++ cs.map headW)), some (.ref (R.length + 1)), some (.int n), some (.tup (ps.map tieD)), z13, y14, x15, x16, x17, x18, x19, R ++ [.dead], M9, p9.mono (by push_cast; omega), ?_⟩
  unfold B_law_for5
  rw [seq_nx _ _ _ [x0, some (.ref 0), x2, some (webD n ts), x4, x5, x6, x7, x8, x9, x10, x11, x12, x13, x14, x15, x16, x17, x18, x19] _ M2 (by
    simp only [ev_asg, ev_call, ev_cons, ev_var, ev_C, ev_B, ev_e2, ev_e1, List.getElem?_cons_zero, List.getElem?_cons_succ, Rs.bind_ok, ev_nil, List.length_cons, List.length_nil, Nat.reduceAdd, if_true, Rs.stm_ok, ev_gN, nxO_ok, List.set_cons_succ, List.set_cons_zero, ea', eb])]
  rw [seq_nx _ _ _ [x0, some (.ref 0), x2, some (webD n ts), x4, x5, x6, x7, x8, x9, x10, some (.int n), some (.tup (ps.map tieD)), x13, x14, x15, x16, x17, x18, x19] _ M3 (by
    simp only [ev_asg, ev_call, ev_cons, ev_var, ev_C, ev_B, ev_e2, ev_e1, List.getElem?_cons_zero, List.getElem?_cons_succ, Rs.bind_ok, ev_nil, List.length_cons, List.length_nil, Nat.reduceAdd, if_true, Rs.stm_ok, ev_gN, nxO_ok, List.set_cons_succ, List.set_cons_zero, ev_tup, ix_web0, e3, sz_of (show 2 ≤ 1000000 by omega), ev_gTup, ev_gsCons, ev_gsNil])]
  rw [seq_nx _ _ _ [x0, some (.ref 0), x2, some (webD n ts), some (.tup (natsD hs)), x5, x6, x7, x8, x9, x10, some (.int n), some (.tup (ps.map tieD)), x13, x14, x15, x16, x17, x18, x19] _ M4 (by
    simp only [ev_asg, ev_call, ev_cons, ev_var, ev_C, ev_B, ev_e2, ev_e1, List.getElem?_cons_zero, List.getElem?_cons_succ, Rs.bind_ok, ev_nil, List.length_cons, List.length_nil, Nat.reduceAdd, if_true, Rs.stm_ok, ev_gN, nxO_ok, List.set_cons_succ, List.set_cons_zero, ev_slice, ev_oNo, ev_oSome, ev_listR1, ev_addI, e4, lr, e5, s5, ev_tupL])]
  rw [seq_nx _ _ _ [x0, some (.ref 0), x2, some (webD n ts), some (.tup (natsD hs)), some (.tup (natsD fw)), x6, x7, x8, x9, x10, some (.int n), some (.tup (ps.map tieD)), x13, x14, x15, x16, x17, x18, x19] _ M5 (by
    simp only [ev_asg, ev_call, ev_cons, ev_var, ev_C, ev_B, ev_e2, ev_e1, List.getElem?_cons_zero, List.getElem?_cons_succ, Rs.bind_ok, ev_nil, List.length_cons, List.length_nil, Nat.reduceAdd, if_true, Rs.stm_ok, ev_gN, nxO_ok, List.set_cons_succ, List.set_cons_zero, ev_lc, ev_aRng, r1, ofO_some, wipeD, e6, m5, ev_tupL])]
  rw [seq_nx _ _ _ [x0, some (.ref 0), x2, some (webD n ts), some (.tup (natsD hs)), some (.tup (natsD fw)), y6, x7, x8, x9, x10, some (.int n), some (.tup (ps.map tieD)), y13, y14, x15, x16, x17, x18, x19] _ M6 (by
    rw [ev_for]
    simp only [ev_asg, ev_call, ev_cons, ev_var, ev_C, ev_B, ev_e2, ev_e1, List.getElem?_cons_zero, List.getElem?_cons_succ, Rs.bind_ok, ev_nil, List.length_cons, List.length_nil, Nat.reduceAdd, if_true, Rs.stm_ok, ev_gN, nxO_ok, List.set_cons_succ, List.set_cons_zero, ev_aOf, ev_lst, m6, e7, a6, itL, ofO_some]
    exact e8)]
  rw [seq_nx _ _ _ [x0, some (.ref 0), x2, some (webD n ts), some (.tup (natsD hs)), some (.tup (natsD fw)), z6, x7, x8, x9, x10, some (.int n), some (.tup (ps.map tieD)), z13, y14, x15, x16, x17, x18, x19] _ M7 (by
    rw [ev_for]
    simp only [ev_asg, ev_call, ev_cons, ev_var, ev_C, ev_B, ev_e2, ev_e1, List.getElem?_cons_zero, List.getElem?_cons_succ, Rs.bind_ok, ev_nil, List.length_cons, List.length_nil, Nat.reduceAdd, if_true, Rs.stm_ok, ev_gN, nxO_ok, List.set_cons_succ, List.set_cons_zero, ev_aOf, ev_lst, ix_web1, m7, e9, a7, itL, ofO_some]
    exact e10)]
  rw [seq_nx _ _ _ [x0, some (.ref 0), x2, some (webD n ts), some (.tup (natsD hs)), some (.tup (natsD fw)), z6, some (.lst ws0), x8, x9, x10, some (.int n), some (.tup (ps.map tieD)), z13, y14, x15, x16, x17, x18, x19] _ M7 (by
    simp only [ev_asg, ev_call, ev_cons, ev_var, ev_C, ev_B, ev_e2, ev_e1, List.getElem?_cons_zero, List.getElem?_cons_succ, Rs.bind_ok, ev_nil, List.length_cons, List.length_nil, Nat.reduceAdd, if_true, Rs.stm_ok, ev_gN, nxO_ok, List.set_cons_succ, List.set_cons_zero, ev_lc, ev_aRng, r1, ofO_some, wipeD, c7, mw])]
  rw [seq_nx _ _ _ [x0, some (.ref 0), x2, some (webD n ts), some (.tup (natsD hs)), some (.tup (natsD fw)), z6, some (.lst ws), y8, x9, x10, some (.int n), some (.tup (ps.map tieD)), z13, y14, x15, x16, x17, x18, x19] _ M7 (by
    rw [ev_for]
    simp only [ev_asg, ev_call, ev_cons, ev_var, ev_C, ev_B, ev_e2, ev_e1, List.getElem?_cons_zero, List.getElem?_cons_succ, Rs.bind_ok, ev_nil, List.length_cons, List.length_nil, Nat.reduceAdd, if_true, Rs.stm_ok, ev_gN, nxO_ok, List.set_cons_succ, List.set_cons_zero, ev_aRng, r3, ofO_some]
    exact e11)]
  rw [seq_nx _ _ _ [x0, some (.ref 0), x2, some (webD n ts), some (.tup (natsD hs)), some (.tup (natsD fw)), z6, some (.lst ws), y8, some (.lst (f6 ++ ws ++ cs.map headW)), x10, some (.int n), some (.tup (ps.map tieD)), z13, y14, x15, x16, x17, x18, x19] _ M7 (by
    simp only [ev_asg, ev_call, ev_cons, ev_var, ev_C, ev_B, ev_e2, ev_e1, List.getElem?_cons_zero, List.getElem?_cons_succ, Rs.bind_ok, ev_nil, List.length_cons, List.length_nil, Nat.reduceAdd, if_true, Rs.stm_ok, ev_gN, nxO_ok, List.set_cons_succ, List.set_cons_zero, ev_lst, ev_tup, z20, Nat.reduceLeDiff, m9, hfl6, m10, a8, ev_lc, ev_aOf, ev_slice, ev_oSome, ev_oNo, neg3, sl3, itL, ofO_some, wipeD, c8, m8, a9])]
  rw [seq_nx _ _ _ [x0, some (.ref 0), x2, some (webD n ts), some (.tup (natsD hs)), some (.tup (natsD fw)), u6, some (.lst ws), y8, some (.lst (f6 ++ ws ++ cs.map headW)), x10, some (.int n), some (.tup (ps.map tieD)), z13, y14, x15, x16, x17, x18, x19] _ M7 (by
    rw [ev_for]
    simp only [ev_asg, ev_call, ev_cons, ev_var, ev_C, ev_B, ev_e2, ev_e1, List.getElem?_cons_zero, List.getElem?_cons_succ, Rs.bind_ok, ev_nil, List.length_cons, List.length_nil, Nat.reduceAdd, if_true, Rs.stm_ok, ev_gN, nxO_ok, List.set_cons_succ, List.set_cons_zero, ev_aOf, itL, ofO_some]
    exact e12)]
  rw [seq_nx _ _ _ [x0, some (.ref 0), x2, some (webD n ts), some (.tup (natsD hs)), some (.tup (natsD fw)), u6, some (.lst ws), y8, some (.lst (f6 ++ ws ++ cs.map headW)), some (.ref (R.length + 1)), some (.int n), some (.tup (ps.map tieD)), z13, y14, x15, x16, x17, x18, x19] _ (penO cs' a' r' :: (R ++ [.lst [.lam 0]])) (by
    simp only [ev_asg, ev_lst, ev_cons, ev_nil, eLam, Rs.bind_ok, q0, Rs.stm_ok, ev_gN, nxO_ok, List.set_cons_succ, List.set_cons_zero, List.cons_append])]
  rw [seq_nx _ _ _ [x0, some (.ref 0), x2, some (webD n ts), some (.tup (natsD hs)), some (.tup (natsD fw)), u6, some (.lst ws), y8, some (.lst (f6 ++ ws ++ cs.map headW)), some (.ref (R.length + 1)), some (.int n), some (.tup (ps.map tieD)), z13, y14, x15, x16, x17, x18, x19] _ (penO cs' a' r' :: (R ++ [.lst [.lam 0, .lam 1]])) (by
    simp only [ev_expr, ev_BM, ev_var, List.getElem?_cons_zero, List.getElem?_cons_succ, Rs.bind_ok, gl, ev_cons, ev_nil, eLam, a1', Rs.stm_ok])]
  rw [seq_nx _ _ _ [x0, some (.ref 0), x2, some (webD n ts), some (.tup (natsD hs)), some (.tup (natsD fw)), u6, some (.lst ws), y8, some (.lst (f6 ++ ws ++ cs.map headW)), some (.ref (R.length + 1)), some (.int n), some (.tup (ps.map tieD)), z13, y14, x15, x16, x17, x18, x19] _ (penO cs' a' r' :: (R ++ [.lst [.lam 0, .lam 1, .lam 2]])) (by
    simp only [ev_expr, ev_BM, ev_var, List.getElem?_cons_zero, List.getElem?_cons_succ, Rs.bind_ok, gl, ev_cons, ev_nil, eLam, a2', Rs.stm_ok])]
  rw [seq_nx _ _ _ [x0, some (.ref 0), x2, some (webD n ts), some (.tup (natsD hs)), some (.tup (natsD fw)), u6, some (.lst ws), y8, some (.lst (f6 ++ ws ++ cs.map headW)), some (.ref (R.length + 1)), some (.int n), some (.tup (ps.map tieD)), z13, y14, x15, x16, x17, x18, x19] _ (penO cs' a' r' :: (R ++ [.lst [.lam 0, .lam 1, .lam 2, .lam 3]])) (by
    simp only [ev_expr, ev_BM, ev_var, List.getElem?_cons_zero, List.getElem?_cons_succ, Rs.bind_ok, gl, ev_cons, ev_nil, eLam, a3', Rs.stm_ok])]
  simp only [ev_sif, ev_tBl, ev_e2, ev_lc, ev_aOf, ev_fz, ev_var, List.getElem?_cons_zero, List.getElem?_cons_succ, Rs.bind_ok, fz, itL, ofO_some, wipeD, List.set_cons_succ, List.set_cons_zero, e13', m0, ev_lst, ev_nil, n0, Rs.stm_ok, Bool.false_eq_true, if_false, ev_nx]
end
end Dl

set_option Elab.async false
set_option linter.all false
set_option autoImplicit false
set_option maxRecDepth 100000
set_option maxHeartbeats 4000000
/-! the law. -/
namespace Dl
noncomputable section
open PySem PySem.Spec L2
theorem ev_disp (ps : List (Key × EE)) (δ : Loc) (M : Mem) : eDisp ps δ M = (dispL ps δ M).bind fun l M1 => .ok (.ref M1.length) (M1 ++ [.dK (mergeD l)]) := rfl
theorem merge_pen (d a r : D) : mergeD [(Sum.inr ("cells" : Str), d), (Sum.inr ("at" : Str), a), (Sum.inr ("rest" : Str), r)] = [(Sum.inr ("cells" : Str), d), (Sum.inr ("at" : Str), a), (Sum.inr ("rest" : Str), r)] := by
  simp only [mergeD, List.foldl_cons, List.foldl_nil, putD, List.any_cons, List.any_nil, Sum.inr.injEq, ne_ca, ne_cr, ne_ar, decide_false, Bool.or_false, Bool.false_eq_true, if_false, List.nil_append, List.cons_append]
theorem cut63 (ds : List D) (h : ds.length ≤ 63) : cutD ds none (some 63) = ds := by
  unfold cutD HT.sIx
  simp
  rw [show min 63 ds.length = ds.length by omega, List.take_length]
theorem eq_law_pen (ns : List Int) (h : ns.length ≤ 63) : F__law_pen [.scr ns] [] = .ok (.ref 0) [penO ns 0 0] := by
  have m1 : mkL true (ns.map D.int) ([] : Mem) = .ok (.lst (ns.map D.int)) [] := mkL_true _ _ (by simp [sizeLine_eq]; omega)
  have s1 : sliceD true (.scr ns) none (some 63) [] = .ok (.lst (ns.map D.int)) [] := by
    show mkL true (cutD (ns.map D.int) none (some 63)) [] = _
    rw [cut63 _ (by simpa using h), m1]
  have l1 : listD true [.lst (ns.map D.int)] [] = .ok (.lst (ns.map D.int)) [] := m1
  have dr : dropM [] (.ref 0) [penO ns 0 0] = [penO ns 0 0] := by
    unfold dropM
    rw [if_neg]
    intro h
    exact absurd h.1 (by simp [bel])
  have e : (eDisp [(.inr "cells", (eB (listD true) (aCons (eSlice true (eVar 0) oNo (oSome (eC (.int 63)))) aNil))), (.inr "at", (eC (.int 0))), (.inr "rest", (eC (.int 0)))]) [some (.scr ns)] [] = .ok (.ref 0) [penO ns 0 0] := by
    simp only [ev_disp, dispL, ev_B, ev_cons, ev_slice, ev_var, List.getElem?_cons_zero, Rs.bind_ok, ev_oNo, ev_oSome, ev_C, s1, ev_nil, l1, merge_pen]
    rfl
  simp only [F__law_pen, B__law_pen, defF, startD, List.map_cons, List.map_nil, List.length_cons, List.length_nil, Nat.reduceAdd, Nat.reduceSub, Nat.sub_self, List.replicate, List.append_nil, ev_ret, e, Rs.stm_ok, dr]
theorem law_holds : LawF F_law := fun ns hns => by
  have e1 := eq_law_pen ns hns
  have p0 : Pn 0 [penO ns 0 0] [] := ⟨ns, 0, 0, rfl, hns, by omega, by omega⟩
  obtain ⟨t, ht, et⟩ : ∃ t : Nat, t ≤ 5 ∧ (3 : Int) + (if (ns.length : Int) < 2 then (ns.length : Int) else 2) = (t : Int) := by
    by_cases z : (ns.length : Int) < 2
    · exact ⟨3 + ns.length, by omega, by rw [if_pos z]; omega⟩
    · exact ⟨5, by omega, by rw [if_neg z]; rfl⟩
  have r1 := range1 t (by omega)
  obtain ⟨δ', M', e, x2, y3, y4, y5, y6, y7, y8, y9, y10, y11, y12, y13, y14, y15, y16, y17, y18, y19, R', rfl, hp⟩ := forL_inv (gm := gN 2) (body := B_law_for5) (items := (List.range t).map fun (i : Nat) => D.int i) (δ := [some (.scr ns), some (.ref 0), none, none, none, none, none, none, none, none, none, none, none, none, none, none, none, none, none, none]) (M := [penO ns 0 0])
    (fun i δ M' => ∃ (x2 y3 y4 y5 y6 y7 y8 y9 y10 y11 y12 y13 y14 y15 y16 y17 y18 y19 : Option D) (R' : Mem), δ = [some (.scr ns), some (.ref 0), x2, y3, y4, y5, y6, y7, y8, y9, y10, y11, y12, y13, y14, y15, y16, y17, y18, y19] ∧ Pn ((i : Int) * 1000) M' R') ⟨none, none, none, none, none, none, none, none, none, none, none, none, none, none, none, none, none, none, [], rfl, p0.mono (by simp)⟩ (fun i d δ M' hd ⟨x2, y3, y4, y5, y6, y7, y8, y9, y10, y11, y12, y13, y14, y15, y16, y17, y18, y19, R', h0, hp⟩ => by
      have hi : i < t := by have := (List.getElem?_eq_some_iff.mp hd).1; simpa using this
      subst h0
      obtain ⟨z3, z4, z5, z6, z7, z8, z9, z10, z11, z12, z13, z14, z15, z16, z17, z18, z19, R2, M2, hp2, e2'⟩ := for5_ok hp (by omega) (some (.scr ns)) (some d) y3 y4 y5 y6 y7 y8 y9 y10 y11 y12 y13 y14 y15 y16 y17 y18 y19
      exact ⟨_, _, _, M2, rfl, e2', some d, z3, z4, z5, z6, z7, z8, z9, z10, z11, z12, z13, z14, z15, z16, z17, z18, z19, R2, rfl, hp2.mono (by push_cast; omega)⟩)
  refine ⟨dropM [] (.bl true) M', ?_⟩
  have hs : startD 20 [.scr ns] = [some (.scr ns), none, none, none, none, none, none, none, none, none, none, none, none, none, none, none, none, none, none, none] := rfl
  unfold F_law defF
  rw [hs, B_law]
  rw [seq_nx _ _ _ [some (.scr ns), some (.ref 0), none, none, none, none, none, none, none, none, none, none, none, none, none, none, none, none, none, none] _ [penO ns 0 0] (by
    simp only [ev_asg, e1, ev_cons, ev_var, List.getElem?_cons_zero, List.getElem?_cons_succ, Rs.bind_ok, ev_call, ev_nil, List.length_cons, List.length_nil, Nat.reduceAdd, if_true, Rs.stm_ok, nxO_ok, List.set_cons_succ, List.set_cons_zero, ev_gN])]
  rw [seq_nx _ _ _ _ _ _ (show _ = _ from by
    rw [ev_for]
    simp only [ev_aRng, ev_B, ev_lenS, ev_min2, ev_addI, et, r1, ofO_some, ev_e2, ev_cons, ev_var, List.getElem?_cons_zero, List.getElem?_cons_succ, Rs.bind_ok, ev_C, ev_call, ev_nil, List.length_cons, List.length_nil, Nat.reduceAdd, if_true, Rs.stm_ok, nxO_ok, List.set_cons_succ, List.set_cons_zero, ev_gN]
    exact e)]
  simp only [ev_ret, ev_C, Rs.stm_ok]
end
end Dl

set_option Elab.async false
set_option linter.all false
set_option autoImplicit false
set_option maxRecDepth 100000
set_option maxHeartbeats 0
/-! Printed by gen.py: the derivations. -/
namespace Dl
open PySem PySem.Spec PyProof.Rows L2
def top (i : Nat) : Stmt := PySem.Challenge.pw_countedmaps_k71_whole_hues_and_direction.main.body.getD i (.Pass ⟨0, 0, 0, 0⟩)
abbrev s_law : Stmt := top 41
def q_law : Str := qLam "law" s_law
abbrev L_0 : LW := lamW q_law (atE (atS (inS (suS (inS (defBody s_law) 1)) 10) 0) 0)
abbrev L_1 : LW := lamW q_law (atE (atS (inS (suS (inS (defBody s_law) 1)) 11) 0) 1)
abbrev L_2 : LW := lamW q_law (atE (atS (inS (suS (inS (defBody s_law) 1)) 12) 0) 1)
abbrev L_3 : LW := lamW q_law (atE (atS (inS (suS (inS (defBody s_law) 1)) 13) 0) 1)
abbrev t_BadWeb : Stmt := inClass (top 2) 0
theorem tc_BadWeb : FnScope ["self", "web"] ["self", "web"] (defScope t_BadWeb) := ⟨rfl, rfl, rfl, by decide +kernel, rfl, by decide +kernel, by decide +kernel⟩
theorem in_BadWeb {P : Program} {w : World} {K : PySem.W.Frag} {mg : Str → Option Value} {base : Heap} {fI : Addr} {fd : FuncData} (F : L2.Fun K "__init__" "BadWeb.__init__" t_BadWeb fI fd) : FnOk P w K mg base (L2.CX P w) 1 fI fd ["self", "web"] (spInit K ["web"]) :=
  init_one F tc_BadWeb rfl (fun _ _ => rfl)
abbrev t_BadRow : Stmt := inClass (top 3) 0
theorem tc_BadRow : FnScope ["self", "row"] ["self", "row"] (defScope t_BadRow) := ⟨rfl, rfl, rfl, by decide +kernel, rfl, by decide +kernel, by decide +kernel⟩
theorem in_BadRow {P : Program} {w : World} {K : PySem.W.Frag} {mg : Str → Option Value} {base : Heap} {fI : Addr} {fd : FuncData} (F : L2.Fun K "__init__" "BadRow.__init__" t_BadRow fI fd) : FnOk P w K mg base (L2.CX P w) 1 fI fd ["self", "row"] (spInit K ["row"]) :=
  init_one F tc_BadRow rfl (fun _ _ => rfl)
abbrev t_NotKept : Stmt := inClass (top 4) 0
theorem tc_NotKept : FnScope ["self", "promise", "witness"] ["self", "promise", "witness"] (defScope t_NotKept) := ⟨rfl, rfl, rfl, by decide +kernel, rfl, by decide +kernel, by decide +kernel⟩
theorem in_NotKept {P : Program} {w : World} {K : PySem.W.Frag} {mg : Str → Option Value} {base : Heap} {fI : Addr} {fd : FuncData} (F : L2.Fun K "__init__" "NotKept.__init__" t_NotKept fI fd) : FnOk P w K mg base (L2.CX P w) 1 fI fd ["self", "promise", "witness"] (spInit K ["promise", "witness"]) :=
  init_two F tc_NotKept rfl (fun _ _ => rfl) (fun _ _ => rfl)
abbrev s__law_met : Stmt := top 30
theorem sc__law_met : FnScope ["call", "e"] ["call"] (defScope s__law_met) := ⟨rfl, rfl, rfl, by decide +kernel, rfl, by decide +kernel, by decide +kernel⟩
theorem mt__law_met {P : Program} {w : World} {K : PySem.W.Frag} {mg : Str → Option Value} {base : Heap} {g : Gm} (x_BadWeb : Xcl P w K mg base g 2 "BadWeb" ["web"]) (x_BadRow : Xcl P w K mg base g 3 "BadRow" ["row"]) (x_NotKept : Xcl P w K mg base g 4 "NotKept" ["promise", "witness"]) {f : Addr} {fd : FuncData} (F : L2.Fun K "_law_met" "_law_met" s__law_met f fd) (hm : mg "_law_met" = some (.ref f)) (b : Binds K fd ["call"] []) : MetC P w K mg base g "_law_met" H__law_met :=
  ⟨f, fd, s__law_met, ["call", "e"], "call", "e", 1, _, _, _, _, _, _, F, hm, b, sc__law_met, rfl, rfl, rfl, rfl, Or.inl rfl, by decide, by decide, fun cdv A outer s H E => (.of x_BadWeb rfl (dx_tup (dxs_cons dx_str (dxs_cons (dx_f x_BadWeb (by decide) rfl (Or.inl rfl)) dxs_nil))) (.of x_BadRow rfl (dx_tup (dxs_cons dx_str (dxs_cons (dx_f x_BadRow (by decide) rfl (Or.inl rfl)) dxs_nil))) (.of x_NotKept rfl (dx_tup (dxs_cons dx_str (dxs_cons (dx_f x_NotKept (by decide) rfl (Or.inl rfl)) (dxs_cons (dx_f x_NotKept (by decide) rfl (Or.inl rfl)) dxs_nil)))) .nil)))⟩
abbrev s_is_whole : Stmt := top 5
theorem sc_is_whole : FnScope ["value"] ["value"] (defScope s_is_whole) := ⟨rfl, rfl, rfl, by decide +kernel, rfl, by decide +kernel, by decide +kernel⟩
theorem ds_is_whole {P : Program} {w : World} {K : PySem.W.Frag} {mg : Str → Option Value} {base : Heap} {g : Gm} (T : Bt mg)  {f : Addr} {cdv : Value} {A : Around} {outer : List Env} {s : Shared} {H : Hp} {E : XK} (hgd : A.guards = some []) (hr : Room 0 (A.deeper (envOfC "is_whole" (defScope s_is_whole) s.heap.objs.size f cdv))) :
    DSs (cxOf (L2.CX P w) P w K mg base ["value"] "is_whole" (defScope s_is_whole) f cdv A outer s H E) g (fun c d _ H => E c d H) (defBody s_is_whole) B_is_whole := by
  have hN := sc_is_whole.nd
  have hu65 : (A.deeper (envOfC "is_whole" (defScope s_is_whole) s.heap.objs.size f cdv)).units + 65 < cLine := by have := hr.un; omega
  have hu64 : (A.deeper (envOfC "is_whole" (defScope s_is_whole) s.heap.objs.size f cdv)).units + 64 < cLine := by omega
  have hu1 : (A.deeper (envOfC "is_whole" (defScope s_is_whole) s.heap.objs.size f cdv)).units + 1 < cLine := by omega
  exact (dss_one (ds_ret (de_and (de_callB dc_isi isiD_noex T.isinstance bt_isinstance rfl (da_cons (de_var 0) (da_cons (de_ty T.int bt_int rfl) da_nil))) (de_one (de_not (de_callB dc_isi isiD_noex T.isinstance bt_isinstance rfl (da_cons (de_var 0) (da_cons (de_ty T.bool bt_bool rfl) da_nil))))))))
theorem cl_is_whole {P : Program} {w : World} {K : PySem.W.Frag} {mg : Str → Option Value} {base : Heap} {g : Gm} (T : Bt mg)  {f : Addr} {fd : FuncData} (F : L2.Fun K "is_whole" "is_whole" s_is_whole f fd) (hg : g.fa 5 = some f) (hm : mg "is_whole" = some (.ref f)) (b : Binds K fd ["value"] []) : Cl P w K mg base g 1 5 "is_whole" 1 F_is_whole :=
  cl_of (N := ["value"]) (ps := ["value"]) F sc_is_whole hg hm b fun cdv A outer s H E hgd hr => ds_is_whole T  hgd hr
abbrev s_hued_direction : Stmt := top 23
theorem sc_hued_direction : FnScope ["web", "hues", "one", "two"] ["web", "hues"] (defScope s_hued_direction) := ⟨rfl, rfl, rfl, by decide +kernel, rfl, by decide +kernel, by decide +kernel⟩
theorem ds_hued_direction {P : Program} {w : World} {K : PySem.W.Frag} {mg : Str → Option Value} {base : Heap} {g : Gm} (T : Bt mg)  {f : Addr} {cdv : Value} {A : Around} {outer : List Env} {s : Shared} {H : Hp} {E : XK} (hgd : A.guards = some []) (hr : Room 0 (A.deeper (envOfC "hued_direction" (defScope s_hued_direction) s.heap.objs.size f cdv))) :
    DSs (cxOf (L2.CX P w) P w K mg base ["web", "hues", "one", "two"] "hued_direction" (defScope s_hued_direction) f cdv A outer s H E) g (fun c d _ H => E c d H) (defBody s_hued_direction) B_hued_direction := by
  have hN := sc_hued_direction.nd
  have hu65 : (A.deeper (envOfC "hued_direction" (defScope s_hued_direction) s.heap.objs.size f cdv)).units + 65 < cLine := by have := hr.un; omega
  have hu64 : (A.deeper (envOfC "hued_direction" (defScope s_hued_direction) s.heap.objs.size f cdv)).units + 64 < cLine := by omega
  have hu1 : (A.deeper (envOfC "hued_direction" (defScope s_hued_direction) s.heap.objs.size f cdv)).units + 1 < cLine := by omega
  exact (dss_one (ds_ret (de_callTy dc_tuple tupleD_noex T.tuple bt_tuple rfl (da_cons (de_lc true [("one", 2), ("two", 3)] rfl hN (di_tup (de_ix hu1 (de_var 0) de_int)) (blkOk_by rfl) (fun _ _ _ _ _ => (dg_tup rfl (dgs_cons (dg_name 2 hN) (dgs_cons (dg_name 3 hN) dgs_nil)) (gl_cons (gl_cons gl_nil)))) (fun _ _ _ _ _ => dts_nil) (fun _ _ _ _ _ => (de_if (dt_cmp (dop_lt hu64) ltD_noex (de_ix hu1 (de_var 1) (de_var 2)) (de_ix hu1 (de_var 1) (de_var 3))) (de_tup (da_cons (de_var 2) (da_cons (de_var 3) da_nil))) (de_tup (da_cons (de_var 3) (da_cons (de_var 2) da_nil)))))) da_nil))))
theorem cl_hued_direction {P : Program} {w : World} {K : PySem.W.Frag} {mg : Str → Option Value} {base : Heap} {g : Gm} (T : Bt mg)  {f : Addr} {fd : FuncData} (F : L2.Fun K "hued_direction" "hued_direction" s_hued_direction f fd) (hg : g.fa 23 = some f) (hm : mg "hued_direction" = some (.ref f)) (b : Binds K fd ["web", "hues"] []) : Cl P w K mg base g 1 23 "hued_direction" 2 F_hued_direction :=
  cl_of (N := ["web", "hues", "one", "two"]) (ps := ["web", "hues"]) F sc_hued_direction hg hm b fun cdv A outer s H E hgd hr => ds_hued_direction T  hgd hr
abbrev s__law_pen : Stmt := top 26
theorem sc__law_pen : FnScope ["script"] ["script"] (defScope s__law_pen) := ⟨rfl, rfl, rfl, by decide +kernel, rfl, by decide +kernel, by decide +kernel⟩
theorem ds__law_pen {P : Program} {w : World} {K : PySem.W.Frag} {mg : Str → Option Value} {base : Heap} {g : Gm} (T : Bt mg)  {f : Addr} {cdv : Value} {A : Around} {outer : List Env} {s : Shared} {H : Hp} {E : XK} (hgd : A.guards = some []) (hr : Room 0 (A.deeper (envOfC "_law_pen" (defScope s__law_pen) s.heap.objs.size f cdv))) :
    DSs (cxOf (L2.CX P w) P w K mg base ["script"] "_law_pen" (defScope s__law_pen) f cdv A outer s H E) g (fun c d _ H => E c d H) (defBody s__law_pen) B__law_pen := by
  have hN := sc__law_pen.nd
  have hu65 : (A.deeper (envOfC "_law_pen" (defScope s__law_pen) s.heap.objs.size f cdv)).units + 65 < cLine := by have := hr.un; omega
  have hu64 : (A.deeper (envOfC "_law_pen" (defScope s__law_pen) s.heap.objs.size f cdv)).units + 64 < cLine := by omega
  have hu1 : (A.deeper (envOfC "_law_pen" (defScope s__law_pen) s.heap.objs.size f cdv)).units + 1 < cLine := by omega
  exact (dss_one (ds_ret (de_disp (dps_str (de_callTy (dc_list true rfl) listD_noex T.list bt_list rfl (da_cons (de_slice true (de_var 0) do_no (do_some de_int)) da_nil)) (dps_str de_int (dps_str de_int dps_nil))) rfl)))
theorem cl__law_pen {P : Program} {w : World} {K : PySem.W.Frag} {mg : Str → Option Value} {base : Heap} {g : Gm} (T : Bt mg)  {f : Addr} {fd : FuncData} (F : L2.Fun K "_law_pen" "_law_pen" s__law_pen f fd) (hg : g.fa 26 = some f) (hm : mg "_law_pen" = some (.ref f)) (b : Binds K fd ["script"] []) : Cl P w K mg base g 1 26 "_law_pen" 1 F__law_pen :=
  cl_of (N := ["script"]) (ps := ["script"]) F sc__law_pen hg hm b fun cdv A outer s H E hgd hr => ds__law_pen T  hgd hr
abbrev s__law_draw : Stmt := top 27
theorem sc__law_draw : FnScope ["pen", "many", "at", "cell", "mixed", "digit"] ["pen", "many"] (defScope s__law_draw) := ⟨rfl, rfl, rfl, by decide +kernel, rfl, by decide +kernel, by decide +kernel⟩
theorem ds__law_draw {P : Program} {w : World} {K : PySem.W.Frag} {mg : Str → Option Value} {base : Heap} {g : Gm} (T : Bt mg)  {f : Addr} {cdv : Value} {A : Around} {outer : List Env} {s : Shared} {H : Hp} {E : XK} (hgd : A.guards = some []) (hr : Room 0 (A.deeper (envOfC "_law_draw" (defScope s__law_draw) s.heap.objs.size f cdv))) :
    DSs (cxOf (L2.CX P w) P w K mg base ["pen", "many", "at", "cell", "mixed", "digit"] "_law_draw" (defScope s__law_draw) f cdv A outer s H E) g (fun c d _ H => E c d H) (defBody s__law_draw) B__law_draw := by
  have hN := sc__law_draw.nd
  have hu65 : (A.deeper (envOfC "_law_draw" (defScope s__law_draw) s.heap.objs.size f cdv)).units + 65 < cLine := by have := hr.un; omega
  have hu64 : (A.deeper (envOfC "_law_draw" (defScope s__law_draw) s.heap.objs.size f cdv)).units + 64 < cLine := by omega
  have hu1 : (A.deeper (envOfC "_law_draw" (defScope s__law_draw) s.heap.objs.size f cdv)).units + 1 < cLine := by omega
  exact (dss_cons (ds_if (dt_cmp dop_gt iOp_noex (de_ix hu1 (de_var 0) de_str) de_int) (dss_cons (ds_set 5 hN (de_bin dop_mod iOp_noex (de_callTy dc_int intD_noex T.int bt_int rfl (da_cons (de_ix hu1 (de_var 0) de_str) da_nil)) (de_var 1))) (dss_cons (ds_asg (de_bin dop_fdiv iOp_noex (de_ix hu1 (de_var 0) de_str) (de_var 1)) (dg_sub hu1 (de_var 0) de_str)) (dss_one (ds_ret (de_var 5))))) dss_nil) (dss_cons (ds_set 2 hN (de_ix hu1 (de_var 0) de_str)) (dss_cons (ds_asg (de_bin (dop_add true) addD_noex (de_var 2) de_int) (dg_sub hu1 (de_var 0) de_str)) (dss_cons (ds_set 3 hN (de_bin (dop_add true) addD_noex (de_bin (dop_mul true) mulD_noex de_int (de_var 2)) de_int)) (dss_cons (ds_if (dt_cmp (dop_ne hu64) eqD_noex (de_ix hu1 (de_var 0) de_str) (de_lst (fz := true) da_nil)) (dss_one (ds_set 3 hN (de_ix hu1 (de_ix hu1 (de_var 0) de_str) (de_bin dop_mod iOp_noex (de_callTy dc_int intD_noex T.int bt_int rfl (da_cons (de_var 2) da_nil)) (de_callB dc_len lenD_noex T.len bt_len rfl (da_cons (de_ix hu1 (de_var 0) de_str) da_nil)))))) dss_nil) (dss_cons (ds_if (DW.dt (dw_and (dt_cmp (dop_lt hu64) ltD_noex (de_var 2) (de_callB dc_len lenD_noex T.len bt_len rfl (da_cons (de_ix hu1 (de_var 0) de_str) da_nil))) (dw_and1 (dt_cmp dop_ge iOp_noex (de_callB dc_abs absD_noex T.abs bt_abs rfl (da_cons (de_var 3) da_nil)) (de_bin dop_pow iOp_noex de_int de_int))))) (dss_cons (ds_asg (de_bin dop_fdiv iOp_noex (de_bin dop_sub iOp_noex (de_callB dc_abs absD_noex T.abs bt_abs rfl (da_cons (de_var 3) da_nil)) (de_bin dop_pow iOp_noex de_int de_int)) (de_var 1)) (dg_sub hu1 (de_var 0) de_str)) (dss_one (ds_ret (de_bin dop_mod iOp_noex (de_callTy dc_int intD_noex T.int bt_int rfl (da_cons (de_bin dop_sub iOp_noex (de_callB dc_abs absD_noex T.abs bt_abs rfl (da_cons (de_var 3) da_nil)) (de_bin dop_pow iOp_noex de_int de_int)) da_nil)) (de_var 1))))) dss_nil) (dss_cons (ds_set 4 hN (de_bin (dop_add true) addD_noex (de_bin (dop_mul true) mulD_noex (de_bin dop_mod iOp_noex (de_callTy dc_int intD_noex T.int bt_int rfl (da_cons (de_var 3) da_nil)) de_int) de_int) (de_bin (dop_mul true) mulD_noex (de_bin (dop_mul true) mulD_noex de_int (de_var 2)) (de_var 2)))) (dss_cons (ds_set 4 hN (de_bin dop_mod iOp_noex (de_callTy dc_int intD_noex T.int bt_int rfl (da_cons (de_bin (dop_add true) addD_noex (de_bin (dop_add true) addD_noex (de_var 4) (de_bin (dop_mul true) mulD_noex de_int (de_var 2))) de_int) da_nil)) de_int)) (dss_cons (ds_set 4 hN (de_bin dop_mod iOp_noex (de_callTy dc_int intD_noex T.int bt_int rfl (da_cons (de_bin (dop_add true) addD_noex (de_bin (dop_add true) addD_noex (de_bin (dop_add true) addD_noex (de_bin (dop_mul true) mulD_noex (de_var 4) (de_var 4)) (de_bin (dop_mul true) mulD_noex de_int (de_var 4))) (de_bin (dop_mul true) mulD_noex de_int (de_var 2))) de_int) da_nil)) de_int)) (dss_one (ds_ret (de_bin dop_mod iOp_noex (de_callTy dc_int intD_noex T.int bt_int rfl (da_cons (de_bin dop_fdiv iOp_noex (de_bin dop_mod iOp_noex (de_callTy dc_int intD_noex T.int bt_int rfl (da_cons (de_bin (dop_mul true) mulD_noex (de_var 4) (de_bin (dop_add true) addD_noex (de_var 4) de_int)) da_nil)) de_int) de_int) da_nil)) (de_var 1)))))))))))))
theorem cl__law_draw {P : Program} {w : World} {K : PySem.W.Frag} {mg : Str → Option Value} {base : Heap} {g : Gm} (T : Bt mg)  {f : Addr} {fd : FuncData} (F : L2.Fun K "_law_draw" "_law_draw" s__law_draw f fd) (hg : g.fa 27 = some f) (hm : mg "_law_draw" = some (.ref f)) (b : Binds K fd ["pen", "many"] []) : Cl P w K mg base g 1 27 "_law_draw" 2 F__law_draw :=
  cl_of (N := ["pen", "many", "at", "cell", "mixed", "digit"]) (ps := ["pen", "many"]) F sc__law_draw hg hm b fun cdv A outer s H E hgd hr => ds__law_draw T  hgd hr
abbrev s__law_web : Stmt := top 31
theorem sc__law_web : FnScope ["n", "ties", "tie"] ["n", "ties"] (defScope s__law_web) := ⟨rfl, rfl, rfl, by decide +kernel, rfl, by decide +kernel, by decide +kernel⟩
theorem ds__law_web {P : Program} {w : World} {K : PySem.W.Frag} {mg : Str → Option Value} {base : Heap} {g : Gm} (T : Bt mg)  {f : Addr} {cdv : Value} {A : Around} {outer : List Env} {s : Shared} {H : Hp} {E : XK} (hgd : A.guards = some []) (hr : Room 0 (A.deeper (envOfC "_law_web" (defScope s__law_web) s.heap.objs.size f cdv))) :
    DSs (cxOf (L2.CX P w) P w K mg base ["n", "ties", "tie"] "_law_web" (defScope s__law_web) f cdv A outer s H E) g (fun c d _ H => E c d H) (defBody s__law_web) B__law_web := by
  have hN := sc__law_web.nd
  have hu65 : (A.deeper (envOfC "_law_web" (defScope s__law_web) s.heap.objs.size f cdv)).units + 65 < cLine := by have := hr.un; omega
  have hu64 : (A.deeper (envOfC "_law_web" (defScope s__law_web) s.heap.objs.size f cdv)).units + 64 < cLine := by omega
  have hu1 : (A.deeper (envOfC "_law_web" (defScope s__law_web) s.heap.objs.size f cdv)).units + 1 < cLine := by omega
  exact (dss_one (ds_ret (de_tup (da_cons (de_var 0) (da_cons (de_callTy dc_tuple tupleD_noex T.tuple bt_tuple rfl (da_cons (de_callB (dc_sorted true rfl hu64) sortedD_noex T.sorted bt_sorted rfl (da_cons (de_callTy (dc_dictT rfl hu64) dictTD_noex T.dict bt_dict rfl (da_cons (de_lc true [("tie", 2)] rfl hN (di_lst (de_var 1)) (blkOk_by rfl) (fun _ _ _ _ _ => (dg_name 2 hN)) (fun _ _ _ _ _ => dts_nil) (fun _ _ _ _ _ => (de_tup (da_cons (de_var 2) (da_cons de_bl da_nil))))) da_nil)) da_nil)) da_nil)) da_nil)))))
theorem cl__law_web {P : Program} {w : World} {K : PySem.W.Frag} {mg : Str → Option Value} {base : Heap} {g : Gm} (T : Bt mg)  {f : Addr} {fd : FuncData} (F : L2.Fun K "_law_web" "_law_web" s__law_web f fd) (hg : g.fa 31 = some f) (hm : mg "_law_web" = some (.ref f)) (b : Binds K fd ["n", "ties"] []) : Cl P w K mg base g 1 31 "_law_web" 2 F__law_web :=
  cl_of (N := ["n", "ties", "tie"]) (ps := ["n", "ties"]) F sc__law_web hg hm b fun cdv A outer s H E hgd hr => ds__law_web T  hgd hr
abbrev s__law_no_webs : Stmt := top 33
theorem sc__law_no_webs : FnScope ["web", "found", "n", "ties"] ["web"] (defScope s__law_no_webs) := ⟨rfl, rfl, rfl, by decide +kernel, rfl, by decide +kernel, by decide +kernel⟩
theorem ds__law_no_webs {P : Program} {w : World} {K : PySem.W.Frag} {mg : Str → Option Value} {base : Heap} {g : Gm} (T : Bt mg)  {f : Addr} {cdv : Value} {A : Around} {outer : List Env} {s : Shared} {H : Hp} {E : XK} (hgd : A.guards = some []) (hr : Room 0 (A.deeper (envOfC "_law_no_webs" (defScope s__law_no_webs) s.heap.objs.size f cdv))) :
    DSs (cxOf (L2.CX P w) P w K mg base ["web", "found", "n", "ties"] "_law_no_webs" (defScope s__law_no_webs) f cdv A outer s H E) g (fun c d _ H => E c d H) (defBody s__law_no_webs) B__law_no_webs := by
  have hN := sc__law_no_webs.nd
  have hu65 : (A.deeper (envOfC "_law_no_webs" (defScope s__law_no_webs) s.heap.objs.size f cdv)).units + 65 < cLine := by have := hr.un; omega
  have hu64 : (A.deeper (envOfC "_law_no_webs" (defScope s__law_no_webs) s.heap.objs.size f cdv)).units + 64 < cLine := by omega
  have hu1 : (A.deeper (envOfC "_law_no_webs" (defScope s__law_no_webs) s.heap.objs.size f cdv)).units + 1 < cLine := by omega
  exact (dss_cons (ds_asg (de_var 0) (dg_tup rfl (dgs_cons (dg_name 2 hN) (dgs_cons (dg_name 3 hN) dgs_nil)) (gl_cons (gl_cons gl_nil)))) (dss_cons (ds_set 1 hN (de_lst (fz := true) (da_cons de_non (da_cons (de_callTy (dc_list true rfl) listD_noex T.list bt_list rfl (da_cons (de_var 0) da_nil)) (da_cons (de_tup (da_cons (de_var 2) (da_cons (de_callTy (dc_list true rfl) listD_noex T.list bt_list rfl (da_cons (de_var 3) da_nil)) da_nil))) (da_cons (de_tup (da_cons (de_var 2) (da_cons (de_var 3) (da_cons (de_tup da_nil) da_nil)))) (da_cons (de_tup (da_cons (de_neg de_int) (da_cons (de_tup da_nil) da_nil))) (da_cons (de_tup (da_cons de_bl (da_cons (de_tup da_nil) da_nil))) (da_cons (de_tup (da_cons (de_var 2) (da_cons (de_bin (dop_add true) addD_noex (de_var 3) (de_tup (da_cons (de_tup (da_cons de_int (da_cons (de_var 2) da_nil))) da_nil))) da_nil))) (da_cons de_str da_nil)))))))))) (dss_one (ds_ret (de_bin (dop_add true) addD_noex (de_var 1) (de_lst (fz := true) (da_cons (de_tup (da_cons (de_var 2) (da_cons (de_bin (dop_add true) addD_noex (de_var 3) (de_tup (da_cons (de_tup (da_cons de_int (da_cons de_int da_nil))) da_nil))) da_nil))) (da_cons (de_tup (da_cons (de_var 2) (da_cons (de_bin (dop_add true) addD_noex (de_var 3) (de_tup (da_cons (de_tup (da_cons de_int da_nil)) da_nil))) da_nil))) (da_cons (de_tup (da_cons (de_bin (dop_add true) addD_noex (de_var 2) de_int) (da_cons (de_tup (da_cons (de_tup (da_cons de_int (da_cons de_int da_nil))) (da_cons (de_tup (da_cons de_int (da_cons de_int da_nil))) da_nil))) da_nil))) (da_cons (de_tup (da_cons (de_var 2) (da_cons (de_bin (dop_add true) addD_noex (de_var 3) (de_tup (da_cons (de_lst (fz := true) (da_cons de_int (da_cons de_int da_nil))) da_nil))) da_nil))) (da_cons (de_tup (da_cons (de_var 2) da_nil)) da_nil)))))))))))
theorem cl__law_no_webs {P : Program} {w : World} {K : PySem.W.Frag} {mg : Str → Option Value} {base : Heap} {g : Gm} (T : Bt mg)  {f : Addr} {fd : FuncData} (F : L2.Fun K "_law_no_webs" "_law_no_webs" s__law_no_webs f fd) (hg : g.fa 33 = some f) (hm : mg "_law_no_webs" = some (.ref f)) (b : Binds K fd ["web"] []) : Cl P w K mg base g 1 33 "_law_no_webs" 1 F__law_no_webs :=
  cl_of (N := ["web", "found", "n", "ties"]) (ps := ["web"]) F sc__law_no_webs hg hm b fun cdv A outer s H E hgd hr => ds__law_no_webs T  hgd hr
abbrev s__law_are_hues : Stmt := top 36
theorem sc__law_are_hues : FnScope ["web", "value", "hue", "tie"] ["web", "value"] (defScope s__law_are_hues) := ⟨rfl, rfl, rfl, by decide +kernel, rfl, by decide +kernel, by decide +kernel⟩
theorem ds__law_are_hues {P : Program} {w : World} {K : PySem.W.Frag} {mg : Str → Option Value} {base : Heap} {g : Gm} (T : Bt mg)  {f : Addr} {cdv : Value} {A : Around} {outer : List Env} {s : Shared} {H : Hp} {E : XK} (hgd : A.guards = some []) (hr : Room 0 (A.deeper (envOfC "_law_are_hues" (defScope s__law_are_hues) s.heap.objs.size f cdv))) :
    DSs (cxOf (L2.CX P w) P w K mg base ["web", "value", "hue", "tie"] "_law_are_hues" (defScope s__law_are_hues) f cdv A outer s H E) g (fun c d _ H => E c d H) (defBody s__law_are_hues) B__law_are_hues := by
  have hN := sc__law_are_hues.nd
  have hu65 : (A.deeper (envOfC "_law_are_hues" (defScope s__law_are_hues) s.heap.objs.size f cdv)).units + 65 < cLine := by have := hr.un; omega
  have hu64 : (A.deeper (envOfC "_law_are_hues" (defScope s__law_are_hues) s.heap.objs.size f cdv)).units + 64 < cLine := by omega
  have hu1 : (A.deeper (envOfC "_law_are_hues" (defScope s__law_are_hues) s.heap.objs.size f cdv)).units + 1 < cLine := by omega
  exact (dss_cons (ds_if (DW.dt (dw_or (dt_not (dt_tru (de_callB dc_isi isiD_noex T.isinstance bt_isinstance rfl (da_cons (de_var 1) (da_cons (de_ty T.tuple bt_tuple rfl) da_nil))))) (dw_or1 (dt_cmp (dop_ne hu64) eqD_noex (de_callB dc_len lenD_noex T.len bt_len rfl (da_cons (de_var 1) da_nil)) (de_ix hu1 (de_var 0) de_int))))) (dss_one (ds_ret de_bl)) dss_nil) (dss_cons (ds_if (dt_cmp (dop_ne hu64) eqD_noex (de_lc true [("hue", 2)] rfl hN (di_tup (de_var 1)) (blkOk_by rfl) (fun _ _ _ _ _ => (dg_name 2 hN)) (fun _ _ _ _ _ => (dts_one (DW.dt (dw_or (dt_not (dt_tru (de_callB dc_isi isiD_noex T.isinstance bt_isinstance rfl (da_cons (de_var 2) (da_cons (de_ty T.int bt_int rfl) da_nil))))) (dw_or (dt_tru (de_callB dc_isi isiD_noex T.isinstance bt_isinstance rfl (da_cons (de_var 2) (da_cons (de_ty T.bool bt_bool rfl) da_nil)))) (dw_or1 (dt_cmp (dop_lt hu64) ltD_noex (de_var 2) de_int))))))) (fun _ _ _ _ _ => (de_var 2))) (de_lst (fz := true) da_nil)) (dss_one (ds_ret de_bl)) dss_nil) (dss_one (ds_ret (de_cmp (dop_eq hu64) eqD_noex (de_lc true [("tie", 3)] rfl hN (di_tup (de_ix hu1 (de_var 0) de_int)) (blkOk_by rfl) (fun _ _ _ _ _ => (dg_name 3 hN)) (fun _ _ _ _ _ => (dts_one (dt_cmp (dop_eq hu64) eqD_noex (de_ix hu1 (de_var 1) (de_ix hu1 (de_var 3) de_int)) (de_ix hu1 (de_var 1) (de_ix hu1 (de_var 3) de_int))))) (fun _ _ _ _ _ => (de_var 3))) (de_lst (fz := true) da_nil))))))
theorem cl__law_are_hues {P : Program} {w : World} {K : PySem.W.Frag} {mg : Str → Option Value} {base : Heap} {g : Gm} (T : Bt mg)  {f : Addr} {fd : FuncData} (F : L2.Fun K "_law_are_hues" "_law_are_hues" s__law_are_hues f fd) (hg : g.fa 36 = some f) (hm : mg "_law_are_hues" = some (.ref f)) (b : Binds K fd ["web", "value"] []) : Cl P w K mg base g 1 36 "_law_are_hues" 2 F__law_are_hues :=
  cl_of (N := ["web", "value", "hue", "tie"]) (ps := ["web", "value"]) F sc__law_are_hues hg hm b fun cdv A outer s H E hgd hr => ds__law_are_hues T  hgd hr
abbrev s__law_is_direction : Stmt := top 38
theorem sc__law_is_direction : FnScope ["web", "value", "tie", "item"] ["web", "value"] (defScope s__law_is_direction) := ⟨rfl, rfl, rfl, by decide +kernel, rfl, by decide +kernel, by decide +kernel⟩
theorem ds__law_is_direction {P : Program} {w : World} {K : PySem.W.Frag} {mg : Str → Option Value} {base : Heap} {g : Gm} (T : Bt mg)  {f : Addr} {cdv : Value} {A : Around} {outer : List Env} {s : Shared} {H : Hp} {E : XK} (hgd : A.guards = some []) (hr : Room 0 (A.deeper (envOfC "_law_is_direction" (defScope s__law_is_direction) s.heap.objs.size f cdv))) :
    DSs (cxOf (L2.CX P w) P w K mg base ["web", "value", "tie", "item"] "_law_is_direction" (defScope s__law_is_direction) f cdv A outer s H E) g (fun c d _ H => E c d H) (defBody s__law_is_direction) B__law_is_direction := by
  have hN := sc__law_is_direction.nd
  have hu65 : (A.deeper (envOfC "_law_is_direction" (defScope s__law_is_direction) s.heap.objs.size f cdv)).units + 65 < cLine := by have := hr.un; omega
  have hu64 : (A.deeper (envOfC "_law_is_direction" (defScope s__law_is_direction) s.heap.objs.size f cdv)).units + 64 < cLine := by omega
  have hu1 : (A.deeper (envOfC "_law_is_direction" (defScope s__law_is_direction) s.heap.objs.size f cdv)).units + 1 < cLine := by omega
  exact (dss_cons (ds_if (DW.dt (dw_or (dt_not (dt_tru (de_callB dc_isi isiD_noex T.isinstance bt_isinstance rfl (da_cons (de_var 1) (da_cons (de_ty T.tuple bt_tuple rfl) da_nil))))) (dw_or1 (dt_cmp (dop_ne hu64) eqD_noex (de_callB dc_len lenD_noex T.len bt_len rfl (da_cons (de_var 1) da_nil)) (de_callB dc_len lenD_noex T.len bt_len rfl (da_cons (de_ix hu1 (de_var 0) de_int) da_nil)))))) (dss_one (ds_ret de_bl)) dss_nil) (dss_cons (ds_for (passes_of rfl) rfl (di_zip T.zip (da_cons (de_ix hu1 (de_var 0) de_int) (da_cons (de_var 1) da_nil))) (dg_tup rfl (dgs_cons (dg_name 2 hN) (dgs_cons (dg_name 3 hN) dgs_nil)) (gl_cons (gl_cons gl_nil))) (s := B__law_is_direction_for1) (dss_one (ds_if (DW.dt (dw_and (dt_cmp (dop_ne hu64) eqD_noex (de_callB (dc_repr hgd hu64) reprD_noex T.repr bt_repr rfl (da_cons (de_var 3) da_nil)) (de_callB (dc_repr hgd hu64) reprD_noex T.repr bt_repr rfl (da_cons (de_var 2) da_nil))) (dw_and1 (dt_cmp (dop_ne hu64) eqD_noex (de_callB (dc_repr hgd hu64) reprD_noex T.repr bt_repr rfl (da_cons (de_var 3) da_nil)) (de_callB (dc_repr hgd hu64) reprD_noex T.repr bt_repr rfl (da_cons (de_rev (de_var 2)) da_nil)))))) (dss_one (ds_ret de_bl)) dss_nil))) (dss_one (ds_ret de_bl))))
theorem cl__law_is_direction {P : Program} {w : World} {K : PySem.W.Frag} {mg : Str → Option Value} {base : Heap} {g : Gm} (T : Bt mg)  {f : Addr} {fd : FuncData} (F : L2.Fun K "_law_is_direction" "_law_is_direction" s__law_is_direction f fd) (hg : g.fa 38 = some f) (hm : mg "_law_is_direction" = some (.ref f)) (b : Binds K fd ["web", "value"] []) : Cl P w K mg base g 1 38 "_law_is_direction" 2 F__law_is_direction :=
  cl_of (N := ["web", "value", "tie", "item"]) (ps := ["web", "value"]) F sc__law_is_direction hg hm b fun cdv A outer s H E hgd hr => ds__law_is_direction T  hgd hr
abbrev s__law_is_way : Stmt := top 39
theorem sc__law_is_way : FnScope ["web", "direction", "value", "place", "k"] ["web", "direction", "value"] (defScope s__law_is_way) := ⟨rfl, rfl, rfl, by decide +kernel, rfl, by decide +kernel, by decide +kernel⟩
theorem ds__law_is_way {P : Program} {w : World} {K : PySem.W.Frag} {mg : Str → Option Value} {base : Heap} {g : Gm} (T : Bt mg)  {f : Addr} {cdv : Value} {A : Around} {outer : List Env} {s : Shared} {H : Hp} {E : XK} (hgd : A.guards = some []) (hr : Room 0 (A.deeper (envOfC "_law_is_way" (defScope s__law_is_way) s.heap.objs.size f cdv))) :
    DSs (cxOf (L2.CX P w) P w K mg base ["web", "direction", "value", "place", "k"] "_law_is_way" (defScope s__law_is_way) f cdv A outer s H E) g (fun c d _ H => E c d H) (defBody s__law_is_way) B__law_is_way := by
  have hN := sc__law_is_way.nd
  have hu65 : (A.deeper (envOfC "_law_is_way" (defScope s__law_is_way) s.heap.objs.size f cdv)).units + 65 < cLine := by have := hr.un; omega
  have hu64 : (A.deeper (envOfC "_law_is_way" (defScope s__law_is_way) s.heap.objs.size f cdv)).units + 64 < cLine := by omega
  have hu1 : (A.deeper (envOfC "_law_is_way" (defScope s__law_is_way) s.heap.objs.size f cdv)).units + 1 < cLine := by omega
  exact (dss_cons (ds_if (DW.dt (dw_or (dt_not (dt_tru (de_callB dc_isi isiD_noex T.isinstance bt_isinstance rfl (da_cons (de_var 2) (da_cons (de_ty T.tuple bt_tuple rfl) da_nil))))) (dw_or1 (dt_cmp (dop_eq hu64) eqD_noex (de_var 2) (de_tup da_nil))))) (dss_one (ds_ret de_bl)) dss_nil) (dss_cons (ds_if (dt_cmp (dop_ne hu64) eqD_noex (de_lc true [("place", 3)] rfl hN (di_tup (de_var 2)) (blkOk_by rfl) (fun _ _ _ _ _ => (dg_name 3 hN)) (fun _ _ _ _ _ => (dts_one (DW.dt (dw_or (dt_not (dt_tru (de_callB dc_isi isiD_noex T.isinstance bt_isinstance rfl (da_cons (de_var 3) (da_cons (de_ty T.int bt_int rfl) da_nil))))) (dw_or1 (dt_tru (de_callB dc_isi isiD_noex T.isinstance bt_isinstance rfl (da_cons (de_var 3) (da_cons (de_ty T.bool bt_bool rfl) da_nil))))))))) (fun _ _ _ _ _ => (de_var 3))) (de_lst (fz := true) da_nil)) (dss_one (ds_ret de_bl)) dss_nil) (dss_cons (ds_if (DW.dt (dw_or (dt_cmp (dop_ne hu64) eqD_noex (de_lc true [("place", 3)] rfl hN (di_tup (de_var 2)) (blkOk_by rfl) (fun _ _ _ _ _ => (dg_name 3 hN)) (fun _ _ _ _ _ => (dts_one (dt_not (dt_chain dop_le (dop_lt hu64) iOp_noex ltD_noex de_int (de_var 3) (de_ix hu1 (de_var 0) de_int))))) (fun _ _ _ _ _ => (de_var 3))) (de_lst (fz := true) da_nil)) (dw_or1 (dt_cmp (dop_ne hu64) eqD_noex (de_callB dc_len lenD_noex T.len bt_len rfl (da_cons (de_callTy (dc_dictK rfl) dictKD_noex T.dict bt_dict rfl (da_cons (de_lc true [("k", 4)] rfl hN (di_tup (de_var 2)) (blkOk_by rfl) (fun _ _ _ _ _ => (dg_name 4 hN)) (fun _ _ _ _ _ => dts_nil) (fun _ _ _ _ _ => (de_tup (da_cons (de_var 4) (da_cons de_int da_nil))))) da_nil)) da_nil)) (de_callB dc_len lenD_noex T.len bt_len rfl (da_cons (de_var 2) da_nil)))))) (dss_one (ds_ret de_bl)) dss_nil) (dss_one (ds_ret (de_cmp (dop_eq hu64) eqD_noex (de_lc true [("k", 4)] rfl hN (di_range2 T.range (da_cons de_int (da_cons (de_callB dc_len lenD_noex T.len bt_len rfl (da_cons (de_var 2) da_nil)) da_nil))) (blkOk_by rfl) (fun _ _ _ _ _ => (dg_name 4 hN)) (fun _ _ _ _ _ => (dts_one (dt_cmp (dop_notin hu65) inD_noex (de_tup (da_cons (de_ix hu1 (de_var 2) (de_bin dop_sub iOp_noex (de_var 4) de_int)) (da_cons (de_ix hu1 (de_var 2) (de_var 4)) da_nil))) (de_var 1)))) (fun _ _ _ _ _ => (de_var 4))) (de_lst (fz := true) da_nil)))))))
theorem cl__law_is_way {P : Program} {w : World} {K : PySem.W.Frag} {mg : Str → Option Value} {base : Heap} {g : Gm} (T : Bt mg)  {f : Addr} {fd : FuncData} (F : L2.Fun K "_law_is_way" "_law_is_way" s__law_is_way f fd) (hg : g.fa 39 = some f) (hm : mg "_law_is_way" = some (.ref f)) (b : Binds K fd ["web", "direction", "value"] []) : Cl P w K mg base g 1 39 "_law_is_way" 3 F__law_is_way :=
  cl_of (N := ["web", "direction", "value", "place", "k"]) (ps := ["web", "direction", "value"]) F sc__law_is_way hg hm b fun cdv A outer s H E hgd hr => ds__law_is_way T  hgd hr
abbrev s_is_count : Stmt := top 6
theorem sc_is_count : FnScope ["value"] ["value"] (defScope s_is_count) := ⟨rfl, rfl, rfl, by decide +kernel, rfl, by decide +kernel, by decide +kernel⟩
theorem ds_is_count {P : Program} {w : World} {K : PySem.W.Frag} {mg : Str → Option Value} {base : Heap} {g : Gm} (T : Bt mg) (c_is_whole : Cl P w K mg base g 1 5 "is_whole" 1 F_is_whole) {f : Addr} {cdv : Value} {A : Around} {outer : List Env} {s : Shared} {H : Hp} {E : XK} (hgd : A.guards = some []) (hr : Room 1 (A.deeper (envOfC "is_count" (defScope s_is_count) s.heap.objs.size f cdv))) :
    DSs (cxOf (L2.CX P w) P w K mg base ["value"] "is_count" (defScope s_is_count) f cdv A outer s H E) g (fun c d _ H => E c d H) (defBody s_is_count) B_is_count := by
  have hN := sc_is_count.nd
  have hu65 : (A.deeper (envOfC "is_count" (defScope s_is_count) s.heap.objs.size f cdv)).units + 65 < cLine := by have := hr.un; omega
  have hu64 : (A.deeper (envOfC "is_count" (defScope s_is_count) s.heap.objs.size f cdv)).units + 64 < cLine := by omega
  have hu1 : (A.deeper (envOfC "is_count" (defScope s_is_count) s.heap.objs.size f cdv)).units + 1 < cLine := by omega
  exact (dss_one (ds_ret (de_and (de_call c_is_whole hgd hr (by decide) takes_d rfl (da_cons (de_var 0) da_nil)) (de_one (de_cmp dop_ge iOp_noex (de_var 0) de_int)))))
theorem cl_is_count {P : Program} {w : World} {K : PySem.W.Frag} {mg : Str → Option Value} {base : Heap} {g : Gm} (T : Bt mg) (c_is_whole : Cl P w K mg base g 1 5 "is_whole" 1 F_is_whole) {f : Addr} {fd : FuncData} (F : L2.Fun K "is_count" "is_count" s_is_count f fd) (hg : g.fa 6 = some f) (hm : mg "is_count" = some (.ref f)) (b : Binds K fd ["value"] []) : Cl P w K mg base g 2 6 "is_count" 1 F_is_count :=
  cl_of (N := ["value"]) (ps := ["value"]) F sc_is_count hg hm b fun cdv A outer s H E hgd hr => ds_is_count T c_is_whole hgd hr
abbrev s__law_pick : Stmt := top 28
theorem sc__law_pick : FnScope ["pen", "items"] ["pen", "items"] (defScope s__law_pick) := ⟨rfl, rfl, rfl, by decide +kernel, rfl, by decide +kernel, by decide +kernel⟩
theorem ds__law_pick {P : Program} {w : World} {K : PySem.W.Frag} {mg : Str → Option Value} {base : Heap} {g : Gm} (T : Bt mg) (c__law_draw : Cl P w K mg base g 1 27 "_law_draw" 2 F__law_draw) {f : Addr} {cdv : Value} {A : Around} {outer : List Env} {s : Shared} {H : Hp} {E : XK} (hgd : A.guards = some []) (hr : Room 1 (A.deeper (envOfC "_law_pick" (defScope s__law_pick) s.heap.objs.size f cdv))) :
    DSs (cxOf (L2.CX P w) P w K mg base ["pen", "items"] "_law_pick" (defScope s__law_pick) f cdv A outer s H E) g (fun c d _ H => E c d H) (defBody s__law_pick) B__law_pick := by
  have hN := sc__law_pick.nd
  have hu65 : (A.deeper (envOfC "_law_pick" (defScope s__law_pick) s.heap.objs.size f cdv)).units + 65 < cLine := by have := hr.un; omega
  have hu64 : (A.deeper (envOfC "_law_pick" (defScope s__law_pick) s.heap.objs.size f cdv)).units + 64 < cLine := by omega
  have hu1 : (A.deeper (envOfC "_law_pick" (defScope s__law_pick) s.heap.objs.size f cdv)).units + 1 < cLine := by omega
  exact (dss_one (ds_ret (de_ix hu1 (de_var 1) (de_call c__law_draw hgd hr (by decide) takes_d rfl (da_cons (de_var 0) (da_cons (de_callB dc_len lenD_noex T.len bt_len rfl (da_cons (de_var 1) da_nil)) da_nil))))))
theorem cl__law_pick {P : Program} {w : World} {K : PySem.W.Frag} {mg : Str → Option Value} {base : Heap} {g : Gm} (T : Bt mg) (c__law_draw : Cl P w K mg base g 1 27 "_law_draw" 2 F__law_draw) {f : Addr} {fd : FuncData} (F : L2.Fun K "_law_pick" "_law_pick" s__law_pick f fd) (hg : g.fa 28 = some f) (hm : mg "_law_pick" = some (.ref f)) (b : Binds K fd ["pen", "items"] []) : Cl P w K mg base g 2 28 "_law_pick" 2 F__law_pick :=
  cl_of (N := ["pen", "items"]) (ps := ["pen", "items"]) F sc__law_pick hg hm b fun cdv A outer s H E hgd hr => ds__law_pick T c__law_draw hgd hr
abbrev s__law_shuffled : Stmt := top 29
theorem sc__law_shuffled : FnScope ["pen", "items", "left", "found"] ["pen", "items"] (defScope s__law_shuffled) := ⟨rfl, rfl, rfl, by decide +kernel, rfl, by decide +kernel, by decide +kernel⟩
theorem ds__law_shuffled {P : Program} {w : World} {K : PySem.W.Frag} {mg : Str → Option Value} {base : Heap} {g : Gm} (T : Bt mg) (c__law_draw : Cl P w K mg base g 1 27 "_law_draw" 2 F__law_draw) {f : Addr} {cdv : Value} {A : Around} {outer : List Env} {s : Shared} {H : Hp} {E : XK} (hgd : A.guards = some []) (hr : Room 1 (A.deeper (envOfC "_law_shuffled" (defScope s__law_shuffled) s.heap.objs.size f cdv))) :
    DSs (cxOf (L2.CX P w) P w K mg base ["pen", "items", "left", "found"] "_law_shuffled" (defScope s__law_shuffled) f cdv A outer s H E) g (fun c d _ H => E c d H) (defBody s__law_shuffled) B__law_shuffled := by
  have hN := sc__law_shuffled.nd
  have hu65 : (A.deeper (envOfC "_law_shuffled" (defScope s__law_shuffled) s.heap.objs.size f cdv)).units + 65 < cLine := by have := hr.un; omega
  have hu64 : (A.deeper (envOfC "_law_shuffled" (defScope s__law_shuffled) s.heap.objs.size f cdv)).units + 64 < cLine := by omega
  have hu1 : (A.deeper (envOfC "_law_shuffled" (defScope s__law_shuffled) s.heap.objs.size f cdv)).units + 1 < cLine := by omega
  exact (dss_cons (ds_par 2 3 rfl hN (da_cons (de_callTy (dc_list false rfl) listD_noex T.list bt_list rfl (da_cons (de_var 1) da_nil)) (da_cons (de_lst (fz := false) da_nil) da_nil))) (dss_cons (ds_while 100000 (passes_of rfl) (dt_cmp (dop_ne hu64) eqD_noex (de_var 2) (de_lst (fz := true) da_nil)) (s := B__law_shuffled_while1) (dss_one (ds_expr (de_bm PySem.F.slot_list_append PySem.F.type_list_append mt_appendD appendD_noex (de_var 3) (da_cons (de_bm PySem.F.slot_list_pop PySem.F.type_list_pop mt_popD popD_noex (de_var 2) (da_cons (de_call c__law_draw hgd hr (by decide) takes_d rfl (da_cons (de_var 0) (da_cons (de_callB dc_len lenD_noex T.len bt_len rfl (da_cons (de_var 2) da_nil)) da_nil))) da_nil)) da_nil))))) (dss_one (ds_ret (de_fz (de_var 3))))))
theorem cl__law_shuffled {P : Program} {w : World} {K : PySem.W.Frag} {mg : Str → Option Value} {base : Heap} {g : Gm} (T : Bt mg) (c__law_draw : Cl P w K mg base g 1 27 "_law_draw" 2 F__law_draw) {f : Addr} {fd : FuncData} (F : L2.Fun K "_law_shuffled" "_law_shuffled" s__law_shuffled f fd) (hg : g.fa 29 = some f) (hm : mg "_law_shuffled" = some (.ref f)) (b : Binds K fd ["pen", "items"] []) : Cl P w K mg base g 2 29 "_law_shuffled" 2 F__law_shuffled :=
  cl_of (N := ["pen", "items", "left", "found"]) (ps := ["pen", "items"]) F sc__law_shuffled hg hm b fun cdv A outer s H E hgd hr => ds__law_shuffled T c__law_draw hgd hr
abbrev s__law_direction : Stmt := top 35
theorem sc__law_direction : FnScope ["pen", "web", "tie"] ["pen", "web"] (defScope s__law_direction) := ⟨rfl, rfl, rfl, by decide +kernel, rfl, by decide +kernel, by decide +kernel⟩
theorem ds__law_direction {P : Program} {w : World} {K : PySem.W.Frag} {mg : Str → Option Value} {base : Heap} {g : Gm} (T : Bt mg) (c__law_draw : Cl P w K mg base g 1 27 "_law_draw" 2 F__law_draw) {f : Addr} {cdv : Value} {A : Around} {outer : List Env} {s : Shared} {H : Hp} {E : XK} (hgd : A.guards = some []) (hr : Room 1 (A.deeper (envOfC "_law_direction" (defScope s__law_direction) s.heap.objs.size f cdv))) :
    DSs (cxOf (L2.CX P w) P w K mg base ["pen", "web", "tie"] "_law_direction" (defScope s__law_direction) f cdv A outer s H E) g (fun c d _ H => E c d H) (defBody s__law_direction) B__law_direction := by
  have hN := sc__law_direction.nd
  have hu65 : (A.deeper (envOfC "_law_direction" (defScope s__law_direction) s.heap.objs.size f cdv)).units + 65 < cLine := by have := hr.un; omega
  have hu64 : (A.deeper (envOfC "_law_direction" (defScope s__law_direction) s.heap.objs.size f cdv)).units + 64 < cLine := by omega
  have hu1 : (A.deeper (envOfC "_law_direction" (defScope s__law_direction) s.heap.objs.size f cdv)).units + 1 < cLine := by omega
  exact (dss_one (ds_ret (de_callTy dc_tuple tupleD_noex T.tuple bt_tuple rfl (da_cons (de_lc true [("tie", 2)] rfl hN (di_tup (de_ix hu1 (de_var 1) de_int)) (blkOk_by rfl) (fun _ _ _ _ _ => (dg_name 2 hN)) (fun _ _ _ _ _ => dts_nil) (fun _ _ _ _ _ => (de_if (dt_cmp (dop_eq hu64) eqD_noex (de_call c__law_draw hgd hr (by decide) takes0 rfl (da_cons (de_var 0) (da_cons de_int da_nil))) de_int) (de_var 2) (de_rev (de_var 2))))) da_nil))))
theorem cl__law_direction {P : Program} {w : World} {K : PySem.W.Frag} {mg : Str → Option Value} {base : Heap} {g : Gm} (T : Bt mg) (c__law_draw : Cl P w K mg base g 1 27 "_law_draw" 2 F__law_draw) {f : Addr} {fd : FuncData} (F : L2.Fun K "_law_direction" "_law_direction" s__law_direction f fd) (hg : g.fa 35 = some f) (hm : mg "_law_direction" = some (.ref f)) (b : Binds K fd ["pen", "web"] []) : Cl P w K mg base g 2 35 "_law_direction" 2 F__law_direction :=
  cl_of (N := ["pen", "web", "tie"]) (ps := ["pen", "web"]) F sc__law_direction hg hm b fun cdv A outer s H E hgd hr => ds__law_direction T c__law_draw hgd hr
abbrev s__law_bent : Stmt := top 40
theorem sc__law_bent : FnScope ["pen", "value", "found", "lap", "k", "item"] ["pen", "value"] (defScope s__law_bent) := ⟨rfl, rfl, rfl, by decide +kernel, rfl, by decide +kernel, by decide +kernel⟩
theorem ds__law_bent {P : Program} {w : World} {K : PySem.W.Frag} {mg : Str → Option Value} {base : Heap} {g : Gm} (T : Bt mg) (c__law_draw : Cl P w K mg base g 1 27 "_law_draw" 2 F__law_draw) {f : Addr} {cdv : Value} {A : Around} {outer : List Env} {s : Shared} {H : Hp} {E : XK} (hgd : A.guards = some []) (hr : Room 1 (A.deeper (envOfC "_law_bent" (defScope s__law_bent) s.heap.objs.size f cdv))) :
    DSs (cxOf (L2.CX P w) P w K mg base ["pen", "value", "found", "lap", "k", "item"] "_law_bent" (defScope s__law_bent) f cdv A outer s H E) g (fun c d _ H => E c d H) (defBody s__law_bent) B__law_bent := by
  have hN := sc__law_bent.nd
  have hu65 : (A.deeper (envOfC "_law_bent" (defScope s__law_bent) s.heap.objs.size f cdv)).units + 65 < cLine := by have := hr.un; omega
  have hu64 : (A.deeper (envOfC "_law_bent" (defScope s__law_bent) s.heap.objs.size f cdv)).units + 64 < cLine := by omega
  have hu1 : (A.deeper (envOfC "_law_bent" (defScope s__law_bent) s.heap.objs.size f cdv)).units + 1 < cLine := by omega
  exact (dss_cons (ds_set 2 hN (de_lst (fz := false) (da_cons de_non (da_cons (de_callTy (dc_list true rfl) listD_noex T.list bt_list rfl (da_cons (de_var 1) da_nil)) (da_cons (de_slice true (de_var 1) (do_some de_int) do_no) (da_cons (de_bin (dop_add true) addD_noex (de_var 1) (de_slice true (de_var 1) (do_some (de_neg de_int)) do_no)) (da_cons (de_tup da_nil) (da_cons (de_rev (de_var 1)) da_nil)))))))) (dss_cons (ds_for (passes_of rfl) rfl (di_range1 T.range (da_cons (de_if (dt_cmp dop_gt iOp_noex (de_callB dc_len lenD_noex T.len bt_len rfl (da_cons (de_var 1) da_nil)) de_int) de_int de_int) da_nil)) (dg_name 3 hN) (s := B__law_bent_for2) (dss_cons (ds_set 4 hN (de_call c__law_draw hgd hr (by decide) takes_d rfl (da_cons (de_var 0) (da_cons (de_callB dc_len lenD_noex T.len bt_len rfl (da_cons (de_var 1) da_nil)) da_nil)))) (dss_one (ds_for (passes_of rfl) rfl (di_lst (de_lst (fz := true) (da_cons de_non (da_cons de_bl (da_cons (de_call c__law_draw hgd hr (by decide) takes_d rfl (da_cons (de_var 0) (da_cons de_int da_nil))) (da_cons (de_tup (da_cons de_int da_nil)) (da_cons (de_tup (da_cons de_int (da_cons de_int da_nil))) (da_cons (de_lst (fz := true) (da_cons de_int (da_cons de_int da_nil))) (da_cons (de_neg de_int) (da_cons de_str da_nil)))))))))) (dg_name 5 hN) (s := B__law_bent_for1) (dss_one (ds_expr (de_bm PySem.F.slot_list_append PySem.F.type_list_append mt_appendD appendD_noex (de_var 2) (da_cons (de_bin (dop_add true) addD_noex (de_bin (dop_add true) addD_noex (de_slice true (de_var 1) do_no (do_some (de_var 4))) (de_tup (da_cons (de_var 5) da_nil))) (de_slice true (de_var 1) (do_some (de_bin (dop_add true) addD_noex (de_var 4) de_int)) do_no)) da_nil)))))))) (dss_one (ds_ret (de_fz (de_var 2))))))
theorem cl__law_bent {P : Program} {w : World} {K : PySem.W.Frag} {mg : Str → Option Value} {base : Heap} {g : Gm} (T : Bt mg) (c__law_draw : Cl P w K mg base g 1 27 "_law_draw" 2 F__law_draw) {f : Addr} {fd : FuncData} (F : L2.Fun K "_law_bent" "_law_bent" s__law_bent f fd) (hg : g.fa 40 = some f) (hm : mg "_law_bent" = some (.ref f)) (b : Binds K fd ["pen", "value"] []) : Cl P w K mg base g 2 40 "_law_bent" 2 F__law_bent :=
  cl_of (N := ["pen", "value", "found", "lap", "k", "item"]) (ps := ["pen", "value"]) F sc__law_bent hg hm b fun cdv A outer s H E hgd hr => ds__law_bent T c__law_draw hgd hr
abbrev s_is_place : Stmt := top 8
theorem sc_is_place : FnScope ["n", "value"] ["n", "value"] (defScope s_is_place) := ⟨rfl, rfl, rfl, by decide +kernel, rfl, by decide +kernel, by decide +kernel⟩
theorem ds_is_place {P : Program} {w : World} {K : PySem.W.Frag} {mg : Str → Option Value} {base : Heap} {g : Gm} (T : Bt mg) (c_is_count : Cl P w K mg base g 2 6 "is_count" 1 F_is_count) {f : Addr} {cdv : Value} {A : Around} {outer : List Env} {s : Shared} {H : Hp} {E : XK} (hgd : A.guards = some []) (hr : Room 2 (A.deeper (envOfC "is_place" (defScope s_is_place) s.heap.objs.size f cdv))) :
    DSs (cxOf (L2.CX P w) P w K mg base ["n", "value"] "is_place" (defScope s_is_place) f cdv A outer s H E) g (fun c d _ H => E c d H) (defBody s_is_place) B_is_place := by
  have hN := sc_is_place.nd
  have hu65 : (A.deeper (envOfC "is_place" (defScope s_is_place) s.heap.objs.size f cdv)).units + 65 < cLine := by have := hr.un; omega
  have hu64 : (A.deeper (envOfC "is_place" (defScope s_is_place) s.heap.objs.size f cdv)).units + 64 < cLine := by omega
  have hu1 : (A.deeper (envOfC "is_place" (defScope s_is_place) s.heap.objs.size f cdv)).units + 1 < cLine := by omega
  exact (dss_one (ds_ret (de_and (de_call c_is_count hgd hr (by decide) takes_d rfl (da_cons (de_var 1) da_nil)) (de_one (de_cmp (dop_lt hu64) ltD_noex (de_var 1) (de_var 0))))))
theorem cl_is_place {P : Program} {w : World} {K : PySem.W.Frag} {mg : Str → Option Value} {base : Heap} {g : Gm} (T : Bt mg) (c_is_count : Cl P w K mg base g 2 6 "is_count" 1 F_is_count) {f : Addr} {fd : FuncData} (F : L2.Fun K "is_place" "is_place" s_is_place f fd) (hg : g.fa 8 = some f) (hm : mg "is_place" = some (.ref f)) (b : Binds K fd ["n", "value"] []) : Cl P w K mg base g 3 8 "is_place" 2 F_is_place :=
  cl_of (N := ["n", "value"]) (ps := ["n", "value"]) F sc_is_place hg hm b fun cdv A outer s H E hgd hr => ds_is_place T c_is_count hgd hr
abbrev s_are_hues_in : Stmt := top 16
theorem sc_are_hues_in : FnScope ["web", "value", "one", "two", "hue"] ["web", "value"] (defScope s_are_hues_in) := ⟨rfl, rfl, rfl, by decide +kernel, rfl, by decide +kernel, by decide +kernel⟩
theorem ds_are_hues_in {P : Program} {w : World} {K : PySem.W.Frag} {mg : Str → Option Value} {base : Heap} {g : Gm} (T : Bt mg) (c_is_count : Cl P w K mg base g 2 6 "is_count" 1 F_is_count) {f : Addr} {cdv : Value} {A : Around} {outer : List Env} {s : Shared} {H : Hp} {E : XK} (hgd : A.guards = some []) (hr : Room 2 (A.deeper (envOfC "are_hues_in" (defScope s_are_hues_in) s.heap.objs.size f cdv))) :
    DSs (cxOf (L2.CX P w) P w K mg base ["web", "value", "one", "two", "hue"] "are_hues_in" (defScope s_are_hues_in) f cdv A outer s H E) g (fun c d _ H => E c d H) (defBody s_are_hues_in) B_are_hues_in := by
  have hN := sc_are_hues_in.nd
  have hu65 : (A.deeper (envOfC "are_hues_in" (defScope s_are_hues_in) s.heap.objs.size f cdv)).units + 65 < cLine := by have := hr.un; omega
  have hu64 : (A.deeper (envOfC "are_hues_in" (defScope s_are_hues_in) s.heap.objs.size f cdv)).units + 64 < cLine := by omega
  have hu1 : (A.deeper (envOfC "are_hues_in" (defScope s_are_hues_in) s.heap.objs.size f cdv)).units + 1 < cLine := by omega
  exact (dss_cons (ds_if (DW.dt (dw_or (dt_not (dt_tru (de_callB dc_isi isiD_noex T.isinstance bt_isinstance rfl (da_cons (de_var 1) (da_cons (de_ty T.tuple bt_tuple rfl) da_nil))))) (dw_or (dt_cmp (dop_ne hu64) eqD_noex (de_callB dc_len lenD_noex T.len bt_len rfl (da_cons (de_var 1) da_nil)) (de_ix hu1 (de_var 0) de_int)) (dw_or1 (dt_not (dt_tru (de_callB (dc_all rfl) allD_noex T.all bt_all rfl (da_cons (de_lc true [("hue", 4)] rfl hN (di_tup (de_var 1)) (blkOk_by rfl) (fun _ _ _ _ _ => (dg_name 4 hN)) (fun _ _ _ _ _ => dts_nil) (fun _ _ _ _ _ => (de_call c_is_count hgd hr (by decide) takes0 rfl (da_cons (de_var 4) da_nil)))) da_nil)))))))) (dss_one (ds_ret de_bl)) dss_nil) (dss_one (ds_ret (de_callB (dc_all rfl) allD_noex T.all bt_all rfl (da_cons (de_lc true [("one", 2), ("two", 3)] rfl hN (di_tup (de_ix hu1 (de_var 0) de_int)) (blkOk_by rfl) (fun _ _ _ _ _ => (dg_tup rfl (dgs_cons (dg_name 2 hN) (dgs_cons (dg_name 3 hN) dgs_nil)) (gl_cons (gl_cons gl_nil)))) (fun _ _ _ _ _ => dts_nil) (fun _ _ _ _ _ => (de_cmp (dop_ne hu64) eqD_noex (de_ix hu1 (de_var 1) (de_var 2)) (de_ix hu1 (de_var 1) (de_var 3))))) da_nil)))))
theorem cl_are_hues_in {P : Program} {w : World} {K : PySem.W.Frag} {mg : Str → Option Value} {base : Heap} {g : Gm} (T : Bt mg) (c_is_count : Cl P w K mg base g 2 6 "is_count" 1 F_is_count) {f : Addr} {fd : FuncData} (F : L2.Fun K "are_hues_in" "are_hues_in" s_are_hues_in f fd) (hg : g.fa 16 = some f) (hm : mg "are_hues_in" = some (.ref f)) (b : Binds K fd ["web", "value"] []) : Cl P w K mg base g 3 16 "are_hues_in" 2 F_are_hues_in :=
  cl_of (N := ["web", "value", "one", "two", "hue"]) (ps := ["web", "value"]) F sc_are_hues_in hg hm b fun cdv A outer s H E hgd hr => ds_are_hues_in T c_is_count hgd hr
abbrev s_is_item_of : Stmt := top 18
theorem sc_is_item_of : FnScope ["tie", "value", "place"] ["tie", "value"] (defScope s_is_item_of) := ⟨rfl, rfl, rfl, by decide +kernel, rfl, by decide +kernel, by decide +kernel⟩
theorem ds_is_item_of {P : Program} {w : World} {K : PySem.W.Frag} {mg : Str → Option Value} {base : Heap} {g : Gm} (T : Bt mg) (c_is_count : Cl P w K mg base g 2 6 "is_count" 1 F_is_count) {f : Addr} {cdv : Value} {A : Around} {outer : List Env} {s : Shared} {H : Hp} {E : XK} (hgd : A.guards = some []) (hr : Room 2 (A.deeper (envOfC "is_item_of" (defScope s_is_item_of) s.heap.objs.size f cdv))) :
    DSs (cxOf (L2.CX P w) P w K mg base ["tie", "value", "place"] "is_item_of" (defScope s_is_item_of) f cdv A outer s H E) g (fun c d _ H => E c d H) (defBody s_is_item_of) B_is_item_of := by
  have hN := sc_is_item_of.nd
  have hu65 : (A.deeper (envOfC "is_item_of" (defScope s_is_item_of) s.heap.objs.size f cdv)).units + 65 < cLine := by have := hr.un; omega
  have hu64 : (A.deeper (envOfC "is_item_of" (defScope s_is_item_of) s.heap.objs.size f cdv)).units + 64 < cLine := by omega
  have hu1 : (A.deeper (envOfC "is_item_of" (defScope s_is_item_of) s.heap.objs.size f cdv)).units + 1 < cLine := by omega
  exact (dss_cons (ds_if (DW.dt (dw_or (dt_not (dt_tru (de_callB dc_isi isiD_noex T.isinstance bt_isinstance rfl (da_cons (de_var 1) (da_cons (de_ty T.tuple bt_tuple rfl) da_nil))))) (dw_or (dt_cmp (dop_ne hu64) eqD_noex (de_callB dc_len lenD_noex T.len bt_len rfl (da_cons (de_var 1) da_nil)) de_int) (dw_or1 (dt_not (dt_tru (de_callB (dc_all rfl) allD_noex T.all bt_all rfl (da_cons (de_lc true [("place", 2)] rfl hN (di_tup (de_var 1)) (blkOk_by rfl) (fun _ _ _ _ _ => (dg_name 2 hN)) (fun _ _ _ _ _ => dts_nil) (fun _ _ _ _ _ => (de_call c_is_count hgd hr (by decide) takes0 rfl (da_cons (de_var 2) da_nil)))) da_nil)))))))) (dss_one (ds_ret de_bl)) dss_nil) (dss_one (ds_ret (de_cmp (dop_in hu65) inD_noex (de_var 1) (de_tup (da_cons (de_var 0) (da_cons (de_rev (de_var 0)) da_nil)))))))
theorem cl_is_item_of {P : Program} {w : World} {K : PySem.W.Frag} {mg : Str → Option Value} {base : Heap} {g : Gm} (T : Bt mg) (c_is_count : Cl P w K mg base g 2 6 "is_count" 1 F_is_count) {f : Addr} {fd : FuncData} (F : L2.Fun K "is_item_of" "is_item_of" s_is_item_of f fd) (hg : g.fa 18 = some f) (hm : mg "is_item_of" = some (.ref f)) (b : Binds K fd ["tie", "value"] []) : Cl P w K mg base g 3 18 "is_item_of" 2 F_is_item_of :=
  cl_of (N := ["tie", "value", "place"]) (ps := ["tie", "value"]) F sc_is_item_of hg hm b fun cdv A outer s H E hgd hr => ds_is_item_of T c_is_count hgd hr
abbrev s__law_some_web : Stmt := top 32
theorem sc__law_some_web : FnScope ["pen", "n", "loops", "pairs", "share", "way", "ties", "order", "k", "one", "two", "pair", "place", "lap"] ["pen", "n", "loops"] (defScope s__law_some_web) := ⟨rfl, rfl, rfl, by decide +kernel, rfl, by decide +kernel, by decide +kernel⟩
theorem ds__law_some_web {P : Program} {w : World} {K : PySem.W.Frag} {mg : Str → Option Value} {base : Heap} {g : Gm} (T : Bt mg) (c__law_draw : Cl P w K mg base g 1 27 "_law_draw" 2 F__law_draw) (c__law_shuffled : Cl P w K mg base g 2 29 "_law_shuffled" 2 F__law_shuffled) (c__law_pick : Cl P w K mg base g 2 28 "_law_pick" 2 F__law_pick) (c__law_web : Cl P w K mg base g 1 31 "_law_web" 2 F__law_web) {f : Addr} {cdv : Value} {A : Around} {outer : List Env} {s : Shared} {H : Hp} {E : XK} (hgd : A.guards = some []) (hr : Room 2 (A.deeper (envOfC "_law_some_web" (defScope s__law_some_web) s.heap.objs.size f cdv))) :
    DSs (cxOf (L2.CX P w) P w K mg base ["pen", "n", "loops", "pairs", "share", "way", "ties", "order", "k", "one", "two", "pair", "place", "lap"] "_law_some_web" (defScope s__law_some_web) f cdv A outer s H E) g (fun c d _ H => E c d H) (defBody s__law_some_web) B__law_some_web := by
  have hN := sc__law_some_web.nd
  have hu65 : (A.deeper (envOfC "_law_some_web" (defScope s__law_some_web) s.heap.objs.size f cdv)).units + 65 < cLine := by have := hr.un; omega
  have hu64 : (A.deeper (envOfC "_law_some_web" (defScope s__law_some_web) s.heap.objs.size f cdv)).units + 64 < cLine := by omega
  have hu1 : (A.deeper (envOfC "_law_some_web" (defScope s__law_some_web) s.heap.objs.size f cdv)).units + 1 < cLine := by omega
  exact (dss_cons (ds_par 5 6 rfl hN (da_cons (de_call c__law_draw hgd hr (by decide) takes_d rfl (da_cons (de_var 0) (da_cons de_int da_nil))) (da_cons (de_lst (fz := false) da_nil) da_nil))) (dss_cons (ds_set 3 hN (de_callB (dc_sumLs rfl) sumLsD_noex T.sum bt_sum rfl (da_cons (de_lc true [("one", 9)] rfl hN (di_range1 T.range (da_cons (de_var 1) da_nil)) (blkOk_by rfl) (fun _ _ _ _ _ => (dg_name 9 hN)) (fun _ _ _ _ _ => dts_nil) (fun _ _ _ _ _ => (de_lc true [("two", 10)] rfl hN (di_range2 T.range (da_cons (de_bin (dop_add true) addD_noex (de_var 9) de_int) (da_cons (de_var 1) da_nil))) (blkOk_by rfl) (fun _ _ _ _ _ => (dg_name 10 hN)) (fun _ _ _ _ _ => dts_nil) (fun _ _ _ _ _ => (de_tup (da_cons (de_var 9) (da_cons (de_var 10) da_nil))))))) (da_cons (de_lst (fz := true) da_nil) da_nil)))) (dss_cons (ds_set 4 hN (de_bin (dop_add true) addD_noex de_int (de_call c__law_draw hgd hr (by decide) takes_d rfl (da_cons (de_var 0) (da_cons de_int da_nil))))) (dss_cons (ds_if (dt_cmp (dop_eq hu64) eqD_noex (de_var 5) de_int) (dss_one (ds_set 6 hN (de_callTy (dc_list false rfl) listD_noex T.list bt_list rfl (da_cons (de_var 3) da_nil)))) (dss_one (ds_if (dt_cmp (dop_lt hu64) ltD_noex (de_var 5) de_int) (dss_one (ds_setLc false 6 [("pair", 11)] rfl hN (di_lst (de_var 3)) (blkOk_by rfl) (fun _ _ _ _ _ => (dg_name 11 hN)) (fun _ _ _ _ _ => (dts_one (dt_cmp (dop_lt hu64) ltD_noex (de_call c__law_draw hgd hr (by decide) takes0 rfl (da_cons (de_var 0) (da_cons de_int da_nil))) (de_var 4)))) (fun _ _ _ _ _ => (de_var 11)))) (dss_cons (ds_set 7 hN (de_call c__law_shuffled hgd hr (by decide) takes_d rfl (da_cons (de_var 0) (da_cons (de_listR1 true rfl T.list T.range rfl rfl (de_var 1)) da_nil)))) (dss_cons (ds_for (passes_of rfl) rfl (di_range2 T.range (da_cons (de_if (DW.dt (dw_and (dt_cmp (dop_eq hu64) eqD_noex (de_var 5) de_int) (dw_and1 (dt_cmp dop_gt iOp_noex (de_var 1) de_int)))) de_int de_int) (da_cons (de_var 1) da_nil))) (dg_name 8 hN) (s := B__law_some_web_for1) (dss_one (ds_expr (de_bm PySem.F.slot_list_append PySem.F.type_list_append mt_appendD appendD_noex (de_var 6) (da_cons (de_tup (da_cons (de_callB (dc_min2 rfl) min2D_noex T.min bt_min rfl (da_cons (de_ix hu1 (de_var 7) (de_bin dop_sub iOp_noex (de_var 8) de_int)) (da_cons (de_ix hu1 (de_var 7) (de_var 8)) da_nil))) (da_cons (de_callB (dc_max2 rfl) max2D_noex T.max bt_max rfl (da_cons (de_ix hu1 (de_var 7) (de_bin dop_sub iOp_noex (de_var 8) de_int)) (da_cons (de_ix hu1 (de_var 7) (de_var 8)) da_nil))) da_nil))) da_nil))))) (dss_one (ds_set 6 hN (de_bin (dop_add false) addD_noex (de_var 6) (de_lc true [("lap", 13)] rfl hN (di_range1 T.range (da_cons (de_if (dt_cmp (dop_ne hu64) eqD_noex (de_var 3) (de_lst (fz := true) da_nil)) (de_call c__law_draw hgd hr (by decide) takes_d rfl (da_cons (de_var 0) (da_cons de_int da_nil))) de_int) da_nil)) (blkOk_by rfl) (fun _ _ _ _ _ => (dg_name 13 hN)) (fun _ _ _ _ _ => dts_nil) (fun _ _ _ _ _ => (de_call c__law_pick hgd hr (by decide) takes0 rfl (da_cons (de_var 0) (da_cons (de_var 3) da_nil))))))))))))) (dss_cons (ds_if (DW.dt (dw_and (dt_tru (de_var 2)) (dw_and1 (dt_cmp (dop_eq hu64) eqD_noex (de_call c__law_draw hgd hr (by decide) takes_d rfl (da_cons (de_var 0) (da_cons de_int da_nil))) de_int)))) (dss_one (ds_set 6 hN (de_bin (dop_add false) addD_noex (de_var 6) (de_lc true [("place", 12)] rfl hN (di_range1 T.range (da_cons (de_var 1) da_nil)) (blkOk_by rfl) (fun _ _ _ _ _ => (dg_name 12 hN)) (fun _ _ _ _ _ => (dts_one (dt_cmp (dop_eq hu64) eqD_noex (de_call c__law_draw hgd hr (by decide) takes0 rfl (da_cons (de_var 0) (da_cons de_int da_nil))) de_int))) (fun _ _ _ _ _ => (de_tup (da_cons (de_var 12) (da_cons (de_var 12) da_nil)))))))) dss_nil) (dss_one (ds_ret (de_call c__law_web hgd hr (by decide) takes_d rfl (da_cons (de_var 1) (da_cons (de_fz (de_var 6)) da_nil))))))))))
theorem cl__law_some_web {P : Program} {w : World} {K : PySem.W.Frag} {mg : Str → Option Value} {base : Heap} {g : Gm} (T : Bt mg) (c__law_draw : Cl P w K mg base g 1 27 "_law_draw" 2 F__law_draw) (c__law_shuffled : Cl P w K mg base g 2 29 "_law_shuffled" 2 F__law_shuffled) (c__law_pick : Cl P w K mg base g 2 28 "_law_pick" 2 F__law_pick) (c__law_web : Cl P w K mg base g 1 31 "_law_web" 2 F__law_web) {f : Addr} {fd : FuncData} (F : L2.Fun K "_law_some_web" "_law_some_web" s__law_some_web f fd) (hg : g.fa 32 = some f) (hm : mg "_law_some_web" = some (.ref f)) (b : Binds K fd ["pen", "n", "loops"] []) : Cl P w K mg base g 3 32 "_law_some_web" 3 F__law_some_web :=
  cl_of (N := ["pen", "n", "loops", "pairs", "share", "way", "ties", "order", "k", "one", "two", "pair", "place", "lap"]) (ps := ["pen", "n", "loops"]) F sc__law_some_web hg hm b fun cdv A outer s H E hgd hr => ds__law_some_web T c__law_draw c__law_shuffled c__law_pick c__law_web hgd hr
abbrev s_is_tie : Stmt := top 9
theorem sc_is_tie : FnScope ["n", "value", "item"] ["n", "value"] (defScope s_is_tie) := ⟨rfl, rfl, rfl, by decide +kernel, rfl, by decide +kernel, by decide +kernel⟩
theorem ds_is_tie {P : Program} {w : World} {K : PySem.W.Frag} {mg : Str → Option Value} {base : Heap} {g : Gm} (T : Bt mg) (c_is_place : Cl P w K mg base g 3 8 "is_place" 2 F_is_place) {f : Addr} {cdv : Value} {A : Around} {outer : List Env} {s : Shared} {H : Hp} {E : XK} (hgd : A.guards = some []) (hr : Room 3 (A.deeper (envOfC "is_tie" (defScope s_is_tie) s.heap.objs.size f cdv))) :
    DSs (cxOf (L2.CX P w) P w K mg base ["n", "value", "item"] "is_tie" (defScope s_is_tie) f cdv A outer s H E) g (fun c d _ H => E c d H) (defBody s_is_tie) B_is_tie := by
  have hN := sc_is_tie.nd
  have hu65 : (A.deeper (envOfC "is_tie" (defScope s_is_tie) s.heap.objs.size f cdv)).units + 65 < cLine := by have := hr.un; omega
  have hu64 : (A.deeper (envOfC "is_tie" (defScope s_is_tie) s.heap.objs.size f cdv)).units + 64 < cLine := by omega
  have hu1 : (A.deeper (envOfC "is_tie" (defScope s_is_tie) s.heap.objs.size f cdv)).units + 1 < cLine := by omega
  exact (dss_cons (ds_if (DW.dt (dw_or (dt_not (dt_tru (de_callB dc_isi isiD_noex T.isinstance bt_isinstance rfl (da_cons (de_var 1) (da_cons (de_ty T.tuple bt_tuple rfl) da_nil))))) (dw_or (dt_cmp (dop_ne hu64) eqD_noex (de_callB dc_len lenD_noex T.len bt_len rfl (da_cons (de_var 1) da_nil)) de_int) (dw_or1 (dt_not (dt_tru (de_callB (dc_all rfl) allD_noex T.all bt_all rfl (da_cons (de_lc true [("item", 2)] rfl hN (di_tup (de_var 1)) (blkOk_by rfl) (fun _ _ _ _ _ => (dg_name 2 hN)) (fun _ _ _ _ _ => dts_nil) (fun _ _ _ _ _ => (de_call c_is_place hgd hr (by decide) takes0 rfl (da_cons (de_var 0) (da_cons (de_var 2) da_nil))))) da_nil)))))))) (dss_one (ds_ret de_bl)) dss_nil) (dss_one (ds_ret (de_cmp dop_le iOp_noex (de_ix hu1 (de_var 1) de_int) (de_ix hu1 (de_var 1) de_int)))))
theorem cl_is_tie {P : Program} {w : World} {K : PySem.W.Frag} {mg : Str → Option Value} {base : Heap} {g : Gm} (T : Bt mg) (c_is_place : Cl P w K mg base g 3 8 "is_place" 2 F_is_place) {f : Addr} {fd : FuncData} (F : L2.Fun K "is_tie" "is_tie" s_is_tie f fd) (hg : g.fa 9 = some f) (hm : mg "is_tie" = some (.ref f)) (b : Binds K fd ["n", "value"] []) : Cl P w K mg base g 4 9 "is_tie" 2 F_is_tie :=
  cl_of (N := ["n", "value", "item"]) (ps := ["n", "value"]) F sc_is_tie hg hm b fun cdv A outer s H E hgd hr => ds_is_tie T c_is_place hgd hr
abbrev s_is_course_in : Stmt := top 13
theorem sc_is_course_in : FnScope ["web", "value", "one", "two", "place"] ["web", "value"] (defScope s_is_course_in) := ⟨rfl, rfl, rfl, by decide +kernel, rfl, by decide +kernel, by decide +kernel⟩
theorem ds_is_course_in {P : Program} {w : World} {K : PySem.W.Frag} {mg : Str → Option Value} {base : Heap} {g : Gm} (T : Bt mg) (c_is_place : Cl P w K mg base g 3 8 "is_place" 2 F_is_place) {f : Addr} {cdv : Value} {A : Around} {outer : List Env} {s : Shared} {H : Hp} {E : XK} (hgd : A.guards = some []) (hr : Room 3 (A.deeper (envOfC "is_course_in" (defScope s_is_course_in) s.heap.objs.size f cdv))) :
    DSs (cxOf (L2.CX P w) P w K mg base ["web", "value", "one", "two", "place"] "is_course_in" (defScope s_is_course_in) f cdv A outer s H E) g (fun c d _ H => E c d H) (defBody s_is_course_in) B_is_course_in := by
  have hN := sc_is_course_in.nd
  have hu65 : (A.deeper (envOfC "is_course_in" (defScope s_is_course_in) s.heap.objs.size f cdv)).units + 65 < cLine := by have := hr.un; omega
  have hu64 : (A.deeper (envOfC "is_course_in" (defScope s_is_course_in) s.heap.objs.size f cdv)).units + 64 < cLine := by omega
  have hu1 : (A.deeper (envOfC "is_course_in" (defScope s_is_course_in) s.heap.objs.size f cdv)).units + 1 < cLine := by omega
  exact (dss_cons (ds_if (DW.dt (dw_or (dt_not (dt_tru (de_callB dc_isi isiD_noex T.isinstance bt_isinstance rfl (da_cons (de_var 1) (da_cons (de_ty T.tuple bt_tuple rfl) da_nil))))) (dw_or (dt_cmp (dop_eq hu64) eqD_noex (de_callB dc_len lenD_noex T.len bt_len rfl (da_cons (de_var 1) da_nil)) de_int) (dw_or1 (dt_not (dt_tru (de_callB (dc_all rfl) allD_noex T.all bt_all rfl (da_cons (de_lc true [("place", 4)] rfl hN (di_tup (de_var 1)) (blkOk_by rfl) (fun _ _ _ _ _ => (dg_name 4 hN)) (fun _ _ _ _ _ => dts_nil) (fun _ _ _ _ _ => (de_call c_is_place hgd hr (by decide) takes0 rfl (da_cons (de_ix hu1 (de_var 0) de_int) (da_cons (de_var 4) da_nil))))) da_nil)))))))) (dss_one (ds_ret de_bl)) dss_nil) (dss_one (ds_ret (de_callB (dc_all rfl) allD_noex T.all bt_all rfl (da_cons (de_lc true [("one", 2), ("two", 3)] rfl hN (di_zip T.zip (da_cons (de_var 1) (da_cons (de_slice true (de_var 1) (do_some de_int) do_no) da_nil))) (blkOk_by rfl) (fun _ _ _ _ _ => (dg_tup rfl (dgs_cons (dg_name 2 hN) (dgs_cons (dg_name 3 hN) dgs_nil)) (gl_cons (gl_cons gl_nil)))) (fun _ _ _ _ _ => dts_nil) (fun _ _ _ _ _ => (de_cmp (dop_in hu65) inD_noex (de_tup (da_cons (de_var 2) (da_cons (de_var 3) da_nil))) (de_ix hu1 (de_var 0) de_int)))) da_nil)))))
theorem cl_is_course_in {P : Program} {w : World} {K : PySem.W.Frag} {mg : Str → Option Value} {base : Heap} {g : Gm} (T : Bt mg) (c_is_place : Cl P w K mg base g 3 8 "is_place" 2 F_is_place) {f : Addr} {fd : FuncData} (F : L2.Fun K "is_course_in" "is_course_in" s_is_course_in f fd) (hg : g.fa 13 = some f) (hm : mg "is_course_in" = some (.ref f)) (b : Binds K fd ["web", "value"] []) : Cl P w K mg base g 4 13 "is_course_in" 2 F_is_course_in :=
  cl_of (N := ["web", "value", "one", "two", "place"]) (ps := ["web", "value"]) F sc_is_course_in hg hm b fun cdv A outer s H E hgd hr => ds_is_course_in T c_is_place hgd hr
abbrev s_is_direction_in : Stmt := top 19
theorem sc_is_direction_in : FnScope ["web", "value", "tie", "item"] ["web", "value"] (defScope s_is_direction_in) := ⟨rfl, rfl, rfl, by decide +kernel, rfl, by decide +kernel, by decide +kernel⟩
theorem ds_is_direction_in {P : Program} {w : World} {K : PySem.W.Frag} {mg : Str → Option Value} {base : Heap} {g : Gm} (T : Bt mg) (c_is_item_of : Cl P w K mg base g 3 18 "is_item_of" 2 F_is_item_of) {f : Addr} {cdv : Value} {A : Around} {outer : List Env} {s : Shared} {H : Hp} {E : XK} (hgd : A.guards = some []) (hr : Room 3 (A.deeper (envOfC "is_direction_in" (defScope s_is_direction_in) s.heap.objs.size f cdv))) :
    DSs (cxOf (L2.CX P w) P w K mg base ["web", "value", "tie", "item"] "is_direction_in" (defScope s_is_direction_in) f cdv A outer s H E) g (fun c d _ H => E c d H) (defBody s_is_direction_in) B_is_direction_in := by
  have hN := sc_is_direction_in.nd
  have hu65 : (A.deeper (envOfC "is_direction_in" (defScope s_is_direction_in) s.heap.objs.size f cdv)).units + 65 < cLine := by have := hr.un; omega
  have hu64 : (A.deeper (envOfC "is_direction_in" (defScope s_is_direction_in) s.heap.objs.size f cdv)).units + 64 < cLine := by omega
  have hu1 : (A.deeper (envOfC "is_direction_in" (defScope s_is_direction_in) s.heap.objs.size f cdv)).units + 1 < cLine := by omega
  exact (dss_cons (ds_if (DW.dt (dw_or (dt_not (dt_tru (de_callB dc_isi isiD_noex T.isinstance bt_isinstance rfl (da_cons (de_var 1) (da_cons (de_ty T.tuple bt_tuple rfl) da_nil))))) (dw_or1 (dt_cmp (dop_ne hu64) eqD_noex (de_callB dc_len lenD_noex T.len bt_len rfl (da_cons (de_var 1) da_nil)) (de_callB dc_len lenD_noex T.len bt_len rfl (da_cons (de_ix hu1 (de_var 0) de_int) da_nil)))))) (dss_one (ds_ret de_bl)) dss_nil) (dss_one (ds_ret (de_callB (dc_all rfl) allD_noex T.all bt_all rfl (da_cons (de_lc true [("tie", 2), ("item", 3)] rfl hN (di_zip T.zip (da_cons (de_ix hu1 (de_var 0) de_int) (da_cons (de_var 1) da_nil))) (blkOk_by rfl) (fun _ _ _ _ _ => (dg_tup rfl (dgs_cons (dg_name 2 hN) (dgs_cons (dg_name 3 hN) dgs_nil)) (gl_cons (gl_cons gl_nil)))) (fun _ _ _ _ _ => dts_nil) (fun _ _ _ _ _ => (de_call c_is_item_of hgd hr (by decide) takes0 rfl (da_cons (de_var 2) (da_cons (de_var 3) da_nil))))) da_nil)))))
theorem cl_is_direction_in {P : Program} {w : World} {K : PySem.W.Frag} {mg : Str → Option Value} {base : Heap} {g : Gm} (T : Bt mg) (c_is_item_of : Cl P w K mg base g 3 18 "is_item_of" 2 F_is_item_of) {f : Addr} {fd : FuncData} (F : L2.Fun K "is_direction_in" "is_direction_in" s_is_direction_in f fd) (hg : g.fa 19 = some f) (hm : mg "is_direction_in" = some (.ref f)) (b : Binds K fd ["web", "value"] []) : Cl P w K mg base g 4 19 "is_direction_in" 2 F_is_direction_in :=
  cl_of (N := ["web", "value", "tie", "item"]) (ps := ["web", "value"]) F sc_is_direction_in hg hm b fun cdv A outer s H E hgd hr => ds_is_direction_in T c_is_item_of hgd hr
abbrev s__law_bare : Stmt := top 34
theorem sc__law_bare : FnScope ["pen", "n"] ["pen", "n"] (defScope s__law_bare) := ⟨rfl, rfl, rfl, by decide +kernel, rfl, by decide +kernel, by decide +kernel⟩
theorem ds__law_bare {P : Program} {w : World} {K : PySem.W.Frag} {mg : Str → Option Value} {base : Heap} {g : Gm} (T : Bt mg) (c__law_some_web : Cl P w K mg base g 3 32 "_law_some_web" 3 F__law_some_web) {f : Addr} {cdv : Value} {A : Around} {outer : List Env} {s : Shared} {H : Hp} {E : XK} (hgd : A.guards = some []) (hr : Room 3 (A.deeper (envOfC "_law_bare" (defScope s__law_bare) s.heap.objs.size f cdv))) :
    DSs (cxOf (L2.CX P w) P w K mg base ["pen", "n"] "_law_bare" (defScope s__law_bare) f cdv A outer s H E) g (fun c d _ H => E c d H) (defBody s__law_bare) B__law_bare := by
  have hN := sc__law_bare.nd
  have hu65 : (A.deeper (envOfC "_law_bare" (defScope s__law_bare) s.heap.objs.size f cdv)).units + 65 < cLine := by have := hr.un; omega
  have hu64 : (A.deeper (envOfC "_law_bare" (defScope s__law_bare) s.heap.objs.size f cdv)).units + 64 < cLine := by omega
  have hu1 : (A.deeper (envOfC "_law_bare" (defScope s__law_bare) s.heap.objs.size f cdv)).units + 1 < cLine := by omega
  exact (dss_one (ds_ret (de_call c__law_some_web hgd hr (by decide) takes_d rfl (da_cons (de_var 0) (da_cons (de_var 1) (da_cons de_bl da_nil))))))
theorem cl__law_bare {P : Program} {w : World} {K : PySem.W.Frag} {mg : Str → Option Value} {base : Heap} {g : Gm} (T : Bt mg) (c__law_some_web : Cl P w K mg base g 3 32 "_law_some_web" 3 F__law_some_web) {f : Addr} {fd : FuncData} (F : L2.Fun K "_law_bare" "_law_bare" s__law_bare f fd) (hg : g.fa 34 = some f) (hm : mg "_law_bare" = some (.ref f)) (b : Binds K fd ["pen", "n"] []) : Cl P w K mg base g 4 34 "_law_bare" 2 F__law_bare :=
  cl_of (N := ["pen", "n"]) (ps := ["pen", "n"]) F sc__law_bare hg hm b fun cdv A outer s H E hgd hr => ds__law_bare T c__law_some_web hgd hr
abbrev s_is_web : Stmt := top 10
theorem sc_is_web : FnScope ["value", "tie", "one", "two"] ["value"] (defScope s_is_web) := ⟨rfl, rfl, rfl, by decide +kernel, rfl, by decide +kernel, by decide +kernel⟩
theorem ds_is_web {P : Program} {w : World} {K : PySem.W.Frag} {mg : Str → Option Value} {base : Heap} {g : Gm} (T : Bt mg) (c_is_count : Cl P w K mg base g 2 6 "is_count" 1 F_is_count) (c_is_tie : Cl P w K mg base g 4 9 "is_tie" 2 F_is_tie) {f : Addr} {cdv : Value} {A : Around} {outer : List Env} {s : Shared} {H : Hp} {E : XK} (hgd : A.guards = some []) (hr : Room 4 (A.deeper (envOfC "is_web" (defScope s_is_web) s.heap.objs.size f cdv))) :
    DSs (cxOf (L2.CX P w) P w K mg base ["value", "tie", "one", "two"] "is_web" (defScope s_is_web) f cdv A outer s H E) g (fun c d _ H => E c d H) (defBody s_is_web) B_is_web := by
  have hN := sc_is_web.nd
  have hu65 : (A.deeper (envOfC "is_web" (defScope s_is_web) s.heap.objs.size f cdv)).units + 65 < cLine := by have := hr.un; omega
  have hu64 : (A.deeper (envOfC "is_web" (defScope s_is_web) s.heap.objs.size f cdv)).units + 64 < cLine := by omega
  have hu1 : (A.deeper (envOfC "is_web" (defScope s_is_web) s.heap.objs.size f cdv)).units + 1 < cLine := by omega
  exact (dss_cons (ds_if (DW.dt (dw_or (dt_not (dt_tru (de_callB dc_isi isiD_noex T.isinstance bt_isinstance rfl (da_cons (de_var 0) (da_cons (de_ty T.tuple bt_tuple rfl) da_nil))))) (dw_or (dt_cmp (dop_ne hu64) eqD_noex (de_callB dc_len lenD_noex T.len bt_len rfl (da_cons (de_var 0) da_nil)) de_int) (dw_or (dt_not (dt_tru (de_call c_is_count hgd hr (by decide) takes_d rfl (da_cons (de_ix hu1 (de_var 0) de_int) da_nil)))) (dw_or1 (dt_not (dt_tru (de_callB dc_isi isiD_noex T.isinstance bt_isinstance rfl (da_cons (de_ix hu1 (de_var 0) de_int) (da_cons (de_ty T.tuple bt_tuple rfl) da_nil)))))))))) (dss_one (ds_ret de_bl)) dss_nil) (dss_cons (ds_if (dt_not (dt_tru (de_callB (dc_all rfl) allD_noex T.all bt_all rfl (da_cons (de_lc true [("tie", 1)] rfl hN (di_tup (de_ix hu1 (de_var 0) de_int)) (blkOk_by rfl) (fun _ _ _ _ _ => (dg_name 1 hN)) (fun _ _ _ _ _ => dts_nil) (fun _ _ _ _ _ => (de_call c_is_tie hgd hr (by decide) takes0 rfl (da_cons (de_ix hu1 (de_var 0) de_int) (da_cons (de_var 1) da_nil))))) da_nil)))) (dss_one (ds_ret de_bl)) dss_nil) (dss_one (ds_ret (de_callB (dc_all rfl) allD_noex T.all bt_all rfl (da_cons (de_lc true [("one", 2), ("two", 3)] rfl hN (di_zip T.zip (da_cons (de_ix hu1 (de_var 0) de_int) (da_cons (de_slice true (de_ix hu1 (de_var 0) de_int) (do_some de_int) do_no) da_nil))) (blkOk_by rfl) (fun _ _ _ _ _ => (dg_tup rfl (dgs_cons (dg_name 2 hN) (dgs_cons (dg_name 3 hN) dgs_nil)) (gl_cons (gl_cons gl_nil)))) (fun _ _ _ _ _ => dts_nil) (fun _ _ _ _ _ => (de_cmp (dop_lt hu64) ltD_noex (de_var 2) (de_var 3)))) da_nil))))))
theorem cl_is_web {P : Program} {w : World} {K : PySem.W.Frag} {mg : Str → Option Value} {base : Heap} {g : Gm} (T : Bt mg) (c_is_count : Cl P w K mg base g 2 6 "is_count" 1 F_is_count) (c_is_tie : Cl P w K mg base g 4 9 "is_tie" 2 F_is_tie) {f : Addr} {fd : FuncData} (F : L2.Fun K "is_web" "is_web" s_is_web f fd) (hg : g.fa 10 = some f) (hm : mg "is_web" = some (.ref f)) (b : Binds K fd ["value"] []) : Cl P w K mg base g 5 10 "is_web" 1 F_is_web :=
  cl_of (N := ["value", "tie", "one", "two"]) (ps := ["value"]) F sc_is_web hg hm b fun cdv A outer s H E hgd hr => ds_is_web T c_is_count c_is_tie hgd hr
abbrev s_need_web : Stmt := top 11
theorem sc_need_web : FnScope ["value"] ["value"] (defScope s_need_web) := ⟨rfl, rfl, rfl, by decide +kernel, rfl, by decide +kernel, by decide +kernel⟩
theorem ds_need_web {P : Program} {w : World} {K : PySem.W.Frag} {mg : Str → Option Value} {base : Heap} {g : Gm} (T : Bt mg) (c_is_web : Cl P w K mg base g 5 10 "is_web" 1 F_is_web) (x_BadWeb : Xcl P w K mg base g 2 "BadWeb" ["web"]) {f : Addr} {cdv : Value} {A : Around} {outer : List Env} {s : Shared} {H : Hp} {E : XK} (hgd : A.guards = some []) (hr : Room 5 (A.deeper (envOfC "need_web" (defScope s_need_web) s.heap.objs.size f cdv))) :
    DSs (cxOf (L2.CX P w) P w K mg base ["value"] "need_web" (defScope s_need_web) f cdv A outer s H E) g (fun c d _ H => E c d H) (defBody s_need_web) B_need_web := by
  have hN := sc_need_web.nd
  have hu65 : (A.deeper (envOfC "need_web" (defScope s_need_web) s.heap.objs.size f cdv)).units + 65 < cLine := by have := hr.un; omega
  have hu64 : (A.deeper (envOfC "need_web" (defScope s_need_web) s.heap.objs.size f cdv)).units + 64 < cLine := by omega
  have hu1 : (A.deeper (envOfC "need_web" (defScope s_need_web) s.heap.objs.size f cdv)).units + 1 < cLine := by omega
  exact (dss_one (ds_if (dt_not (dt_tru (de_call c_is_web hgd hr (by decide) takes_d rfl (da_cons (de_var 0) da_nil)))) (dss_one (ds_raise x_BadWeb rfl hr (by decide) takes_d rfl (da_cons (de_var 0) da_nil) (by decide))) dss_nil))
theorem cl_need_web {P : Program} {w : World} {K : PySem.W.Frag} {mg : Str → Option Value} {base : Heap} {g : Gm} (T : Bt mg) (c_is_web : Cl P w K mg base g 5 10 "is_web" 1 F_is_web) (x_BadWeb : Xcl P w K mg base g 2 "BadWeb" ["web"]) {f : Addr} {fd : FuncData} (F : L2.Fun K "need_web" "need_web" s_need_web f fd) (hg : g.fa 11 = some f) (hm : mg "need_web" = some (.ref f)) (b : Binds K fd ["value"] []) : Cl P w K mg base g 6 11 "need_web" 1 F_need_web :=
  cl_of (N := ["value"]) (ps := ["value"]) F sc_need_web hg hm b fun cdv A outer s H E hgd hr => ds_need_web T c_is_web x_BadWeb hgd hr
abbrev s_need_hue_web : Stmt := top 15
theorem sc_need_hue_web : FnScope ["web", "one", "two"] ["web"] (defScope s_need_hue_web) := ⟨rfl, rfl, rfl, by decide +kernel, rfl, by decide +kernel, by decide +kernel⟩
theorem ds_need_hue_web {P : Program} {w : World} {K : PySem.W.Frag} {mg : Str → Option Value} {base : Heap} {g : Gm} (T : Bt mg) (c_need_web : Cl P w K mg base g 6 11 "need_web" 1 F_need_web) (x_NotKept : Xcl P w K mg base g 4 "NotKept" ["promise", "witness"]) {f : Addr} {cdv : Value} {A : Around} {outer : List Env} {s : Shared} {H : Hp} {E : XK} (hgd : A.guards = some []) (hr : Room 6 (A.deeper (envOfC "need_hue_web" (defScope s_need_hue_web) s.heap.objs.size f cdv))) :
    DSs (cxOf (L2.CX P w) P w K mg base ["web", "one", "two"] "need_hue_web" (defScope s_need_hue_web) f cdv A outer s H E) g (fun c d _ H => E c d H) (defBody s_need_hue_web) B_need_hue_web := by
  have hN := sc_need_hue_web.nd
  have hu65 : (A.deeper (envOfC "need_hue_web" (defScope s_need_hue_web) s.heap.objs.size f cdv)).units + 65 < cLine := by have := hr.un; omega
  have hu64 : (A.deeper (envOfC "need_hue_web" (defScope s_need_hue_web) s.heap.objs.size f cdv)).units + 64 < cLine := by omega
  have hu1 : (A.deeper (envOfC "need_hue_web" (defScope s_need_hue_web) s.heap.objs.size f cdv)).units + 1 < cLine := by omega
  exact (dss_cons (ds_expr (de_call c_need_web hgd hr (by decide) takes_d rfl (da_cons (de_var 0) da_nil))) (dss_one (ds_for (passes_of rfl) rfl (di_tup (de_ix hu1 (de_var 0) de_int)) (dg_tup rfl (dgs_cons (dg_name 1 hN) (dgs_cons (dg_name 2 hN) dgs_nil)) (gl_cons (gl_cons gl_nil))) (s := B_need_hue_web_for1) (dss_one (ds_if (dt_cmp (dop_eq hu64) eqD_noex (de_var 1) (de_var 2)) (dss_one (ds_raise x_NotKept rfl hr (by decide) takes_d rfl (da_cons de_str (da_cons (de_var 1) da_nil)) (by decide))) dss_nil)))))
theorem cl_need_hue_web {P : Program} {w : World} {K : PySem.W.Frag} {mg : Str → Option Value} {base : Heap} {g : Gm} (T : Bt mg) (c_need_web : Cl P w K mg base g 6 11 "need_web" 1 F_need_web) (x_NotKept : Xcl P w K mg base g 4 "NotKept" ["promise", "witness"]) {f : Addr} {fd : FuncData} (F : L2.Fun K "need_hue_web" "need_hue_web" s_need_hue_web f fd) (hg : g.fa 15 = some f) (hm : mg "need_hue_web" = some (.ref f)) (b : Binds K fd ["web"] []) : Cl P w K mg base g 7 15 "need_hue_web" 1 F_need_hue_web :=
  cl_of (N := ["web", "one", "two"]) (ps := ["web"]) F sc_need_hue_web hg hm b fun cdv A outer s H E hgd hr => ds_need_hue_web T c_need_web x_NotKept hgd hr
abbrev s_are_hues : Stmt := top 17
theorem sc_are_hues : FnScope ["web", "value"] ["web", "value"] (defScope s_are_hues) := ⟨rfl, rfl, rfl, by decide +kernel, rfl, by decide +kernel, by decide +kernel⟩
theorem ds_are_hues {P : Program} {w : World} {K : PySem.W.Frag} {mg : Str → Option Value} {base : Heap} {g : Gm} (T : Bt mg) (c_need_hue_web : Cl P w K mg base g 7 15 "need_hue_web" 1 F_need_hue_web) (c_are_hues_in : Cl P w K mg base g 3 16 "are_hues_in" 2 F_are_hues_in) {f : Addr} {cdv : Value} {A : Around} {outer : List Env} {s : Shared} {H : Hp} {E : XK} (hgd : A.guards = some []) (hr : Room 7 (A.deeper (envOfC "are_hues" (defScope s_are_hues) s.heap.objs.size f cdv))) :
    DSs (cxOf (L2.CX P w) P w K mg base ["web", "value"] "are_hues" (defScope s_are_hues) f cdv A outer s H E) g (fun c d _ H => E c d H) (defBody s_are_hues) B_are_hues := by
  have hN := sc_are_hues.nd
  have hu65 : (A.deeper (envOfC "are_hues" (defScope s_are_hues) s.heap.objs.size f cdv)).units + 65 < cLine := by have := hr.un; omega
  have hu64 : (A.deeper (envOfC "are_hues" (defScope s_are_hues) s.heap.objs.size f cdv)).units + 64 < cLine := by omega
  have hu1 : (A.deeper (envOfC "are_hues" (defScope s_are_hues) s.heap.objs.size f cdv)).units + 1 < cLine := by omega
  exact (dss_cons (ds_expr (de_call c_need_hue_web hgd hr (by decide) takes_d rfl (da_cons (de_var 0) da_nil))) (dss_one (ds_ret (de_call c_are_hues_in hgd hr (by decide) takes_d rfl (da_cons (de_var 0) (da_cons (de_var 1) da_nil))))))
theorem cl_are_hues {P : Program} {w : World} {K : PySem.W.Frag} {mg : Str → Option Value} {base : Heap} {g : Gm} (T : Bt mg) (c_need_hue_web : Cl P w K mg base g 7 15 "need_hue_web" 1 F_need_hue_web) (c_are_hues_in : Cl P w K mg base g 3 16 "are_hues_in" 2 F_are_hues_in) {f : Addr} {fd : FuncData} (F : L2.Fun K "are_hues" "are_hues" s_are_hues f fd) (hg : g.fa 17 = some f) (hm : mg "are_hues" = some (.ref f)) (b : Binds K fd ["web", "value"] []) : Cl P w K mg base g 8 17 "are_hues" 2 F_are_hues :=
  cl_of (N := ["web", "value"]) (ps := ["web", "value"]) F sc_are_hues hg hm b fun cdv A outer s H E hgd hr => ds_are_hues T c_need_hue_web c_are_hues_in hgd hr
abbrev s_is_direction : Stmt := top 20
theorem sc_is_direction : FnScope ["web", "value"] ["web", "value"] (defScope s_is_direction) := ⟨rfl, rfl, rfl, by decide +kernel, rfl, by decide +kernel, by decide +kernel⟩
theorem ds_is_direction {P : Program} {w : World} {K : PySem.W.Frag} {mg : Str → Option Value} {base : Heap} {g : Gm} (T : Bt mg) (c_need_hue_web : Cl P w K mg base g 7 15 "need_hue_web" 1 F_need_hue_web) (c_is_direction_in : Cl P w K mg base g 4 19 "is_direction_in" 2 F_is_direction_in) {f : Addr} {cdv : Value} {A : Around} {outer : List Env} {s : Shared} {H : Hp} {E : XK} (hgd : A.guards = some []) (hr : Room 7 (A.deeper (envOfC "is_direction" (defScope s_is_direction) s.heap.objs.size f cdv))) :
    DSs (cxOf (L2.CX P w) P w K mg base ["web", "value"] "is_direction" (defScope s_is_direction) f cdv A outer s H E) g (fun c d _ H => E c d H) (defBody s_is_direction) B_is_direction := by
  have hN := sc_is_direction.nd
  have hu65 : (A.deeper (envOfC "is_direction" (defScope s_is_direction) s.heap.objs.size f cdv)).units + 65 < cLine := by have := hr.un; omega
  have hu64 : (A.deeper (envOfC "is_direction" (defScope s_is_direction) s.heap.objs.size f cdv)).units + 64 < cLine := by omega
  have hu1 : (A.deeper (envOfC "is_direction" (defScope s_is_direction) s.heap.objs.size f cdv)).units + 1 < cLine := by omega
  exact (dss_cons (ds_expr (de_call c_need_hue_web hgd hr (by decide) takes_d rfl (da_cons (de_var 0) da_nil))) (dss_one (ds_ret (de_call c_is_direction_in hgd hr (by decide) takes_d rfl (da_cons (de_var 0) (da_cons (de_var 1) da_nil))))))
theorem cl_is_direction {P : Program} {w : World} {K : PySem.W.Frag} {mg : Str → Option Value} {base : Heap} {g : Gm} (T : Bt mg) (c_need_hue_web : Cl P w K mg base g 7 15 "need_hue_web" 1 F_need_hue_web) (c_is_direction_in : Cl P w K mg base g 4 19 "is_direction_in" 2 F_is_direction_in) {f : Addr} {fd : FuncData} (F : L2.Fun K "is_direction" "is_direction" s_is_direction f fd) (hg : g.fa 20 = some f) (hm : mg "is_direction" = some (.ref f)) (b : Binds K fd ["web", "value"] []) : Cl P w K mg base g 8 20 "is_direction" 2 F_is_direction :=
  cl_of (N := ["web", "value"]) (ps := ["web", "value"]) F sc_is_direction hg hm b fun cdv A outer s H E hgd hr => ds_is_direction T c_need_hue_web c_is_direction_in hgd hr
abbrev s_need_direction : Stmt := top 21
theorem sc_need_direction : FnScope ["web", "direction"] ["web", "direction"] (defScope s_need_direction) := ⟨rfl, rfl, rfl, by decide +kernel, rfl, by decide +kernel, by decide +kernel⟩
theorem ds_need_direction {P : Program} {w : World} {K : PySem.W.Frag} {mg : Str → Option Value} {base : Heap} {g : Gm} (T : Bt mg) (c_need_hue_web : Cl P w K mg base g 7 15 "need_hue_web" 1 F_need_hue_web) (c_is_direction_in : Cl P w K mg base g 4 19 "is_direction_in" 2 F_is_direction_in) (x_BadRow : Xcl P w K mg base g 3 "BadRow" ["row"]) {f : Addr} {cdv : Value} {A : Around} {outer : List Env} {s : Shared} {H : Hp} {E : XK} (hgd : A.guards = some []) (hr : Room 7 (A.deeper (envOfC "need_direction" (defScope s_need_direction) s.heap.objs.size f cdv))) :
    DSs (cxOf (L2.CX P w) P w K mg base ["web", "direction"] "need_direction" (defScope s_need_direction) f cdv A outer s H E) g (fun c d _ H => E c d H) (defBody s_need_direction) B_need_direction := by
  have hN := sc_need_direction.nd
  have hu65 : (A.deeper (envOfC "need_direction" (defScope s_need_direction) s.heap.objs.size f cdv)).units + 65 < cLine := by have := hr.un; omega
  have hu64 : (A.deeper (envOfC "need_direction" (defScope s_need_direction) s.heap.objs.size f cdv)).units + 64 < cLine := by omega
  have hu1 : (A.deeper (envOfC "need_direction" (defScope s_need_direction) s.heap.objs.size f cdv)).units + 1 < cLine := by omega
  exact (dss_cons (ds_expr (de_call c_need_hue_web hgd hr (by decide) takes_d rfl (da_cons (de_var 0) da_nil))) (dss_one (ds_if (dt_not (dt_tru (de_call c_is_direction_in hgd hr (by decide) takes_d rfl (da_cons (de_var 0) (da_cons (de_var 1) da_nil))))) (dss_one (ds_raise x_BadRow rfl hr (by decide) takes_d rfl (da_cons (de_var 1) da_nil) (by decide))) dss_nil)))
theorem cl_need_direction {P : Program} {w : World} {K : PySem.W.Frag} {mg : Str → Option Value} {base : Heap} {g : Gm} (T : Bt mg) (c_need_hue_web : Cl P w K mg base g 7 15 "need_hue_web" 1 F_need_hue_web) (c_is_direction_in : Cl P w K mg base g 4 19 "is_direction_in" 2 F_is_direction_in) (x_BadRow : Xcl P w K mg base g 3 "BadRow" ["row"]) {f : Addr} {fd : FuncData} (F : L2.Fun K "need_direction" "need_direction" s_need_direction f fd) (hg : g.fa 21 = some f) (hm : mg "need_direction" = some (.ref f)) (b : Binds K fd ["web", "direction"] []) : Cl P w K mg base g 8 21 "need_direction" 2 F_need_direction :=
  cl_of (N := ["web", "direction"]) (ps := ["web", "direction"]) F sc_need_direction hg hm b fun cdv A outer s H E hgd hr => ds_need_direction T c_need_hue_web c_is_direction_in x_BadRow hgd hr
abbrev s_direction_by : Stmt := top 24
theorem sc_direction_by : FnScope ["web", "hues"] ["web", "hues"] (defScope s_direction_by) := ⟨rfl, rfl, rfl, by decide +kernel, rfl, by decide +kernel, by decide +kernel⟩
theorem ds_direction_by {P : Program} {w : World} {K : PySem.W.Frag} {mg : Str → Option Value} {base : Heap} {g : Gm} (T : Bt mg) (c_need_hue_web : Cl P w K mg base g 7 15 "need_hue_web" 1 F_need_hue_web) (c_are_hues_in : Cl P w K mg base g 3 16 "are_hues_in" 2 F_are_hues_in) (c_hued_direction : Cl P w K mg base g 1 23 "hued_direction" 2 F_hued_direction) (x_BadRow : Xcl P w K mg base g 3 "BadRow" ["row"]) {f : Addr} {cdv : Value} {A : Around} {outer : List Env} {s : Shared} {H : Hp} {E : XK} (hgd : A.guards = some []) (hr : Room 7 (A.deeper (envOfC "direction_by" (defScope s_direction_by) s.heap.objs.size f cdv))) :
    DSs (cxOf (L2.CX P w) P w K mg base ["web", "hues"] "direction_by" (defScope s_direction_by) f cdv A outer s H E) g (fun c d _ H => E c d H) (defBody s_direction_by) B_direction_by := by
  have hN := sc_direction_by.nd
  have hu65 : (A.deeper (envOfC "direction_by" (defScope s_direction_by) s.heap.objs.size f cdv)).units + 65 < cLine := by have := hr.un; omega
  have hu64 : (A.deeper (envOfC "direction_by" (defScope s_direction_by) s.heap.objs.size f cdv)).units + 64 < cLine := by omega
  have hu1 : (A.deeper (envOfC "direction_by" (defScope s_direction_by) s.heap.objs.size f cdv)).units + 1 < cLine := by omega
  exact (dss_cons (ds_expr (de_call c_need_hue_web hgd hr (by decide) takes_d rfl (da_cons (de_var 0) da_nil))) (dss_cons (ds_if (dt_not (dt_tru (de_call c_are_hues_in hgd hr (by decide) takes_d rfl (da_cons (de_var 0) (da_cons (de_var 1) da_nil))))) (dss_one (ds_raise x_BadRow rfl hr (by decide) takes_d rfl (da_cons (de_var 1) da_nil) (by decide))) dss_nil) (dss_one (ds_ret (de_call c_hued_direction hgd hr (by decide) takes_d rfl (da_cons (de_var 0) (da_cons (de_var 1) da_nil)))))))
theorem cl_direction_by {P : Program} {w : World} {K : PySem.W.Frag} {mg : Str → Option Value} {base : Heap} {g : Gm} (T : Bt mg) (c_need_hue_web : Cl P w K mg base g 7 15 "need_hue_web" 1 F_need_hue_web) (c_are_hues_in : Cl P w K mg base g 3 16 "are_hues_in" 2 F_are_hues_in) (c_hued_direction : Cl P w K mg base g 1 23 "hued_direction" 2 F_hued_direction) (x_BadRow : Xcl P w K mg base g 3 "BadRow" ["row"]) {f : Addr} {fd : FuncData} (F : L2.Fun K "direction_by" "direction_by" s_direction_by f fd) (hg : g.fa 24 = some f) (hm : mg "direction_by" = some (.ref f)) (b : Binds K fd ["web", "hues"] []) : Cl P w K mg base g 8 24 "direction_by" 2 F_direction_by :=
  cl_of (N := ["web", "hues"]) (ps := ["web", "hues"]) F sc_direction_by hg hm b fun cdv A outer s H E hgd hr => ds_direction_by T c_need_hue_web c_are_hues_in c_hued_direction x_BadRow hgd hr
abbrev s_is_way : Stmt := top 22
theorem sc_is_way : FnScope ["web", "direction", "value", "place"] ["web", "direction", "value"] (defScope s_is_way) := ⟨rfl, rfl, rfl, by decide +kernel, rfl, by decide +kernel, by decide +kernel⟩
theorem ds_is_way {P : Program} {w : World} {K : PySem.W.Frag} {mg : Str → Option Value} {base : Heap} {g : Gm} (T : Bt mg) (c_need_direction : Cl P w K mg base g 8 21 "need_direction" 2 F_need_direction) (c_is_course_in : Cl P w K mg base g 4 13 "is_course_in" 2 F_is_course_in) {f : Addr} {cdv : Value} {A : Around} {outer : List Env} {s : Shared} {H : Hp} {E : XK} (hgd : A.guards = some []) (hr : Room 8 (A.deeper (envOfC "is_way" (defScope s_is_way) s.heap.objs.size f cdv))) :
    DSs (cxOf (L2.CX P w) P w K mg base ["web", "direction", "value", "place"] "is_way" (defScope s_is_way) f cdv A outer s H E) g (fun c d _ H => E c d H) (defBody s_is_way) B_is_way := by
  have hN := sc_is_way.nd
  have hu65 : (A.deeper (envOfC "is_way" (defScope s_is_way) s.heap.objs.size f cdv)).units + 65 < cLine := by have := hr.un; omega
  have hu64 : (A.deeper (envOfC "is_way" (defScope s_is_way) s.heap.objs.size f cdv)).units + 64 < cLine := by omega
  have hu1 : (A.deeper (envOfC "is_way" (defScope s_is_way) s.heap.objs.size f cdv)).units + 1 < cLine := by omega
  exact (dss_cons (ds_expr (de_call c_need_direction hgd hr (by decide) takes_d rfl (da_cons (de_var 0) (da_cons (de_var 1) da_nil)))) (dss_cons (ds_if (dt_not (dt_tru (de_call c_is_course_in hgd hr (by decide) takes_d rfl (da_cons (de_tup (da_cons (de_ix hu1 (de_var 0) de_int) (da_cons (de_var 1) da_nil))) (da_cons (de_var 2) da_nil))))) (dss_one (ds_ret de_bl)) dss_nil) (dss_one (ds_ret (de_cmp (dop_eq hu64) eqD_noex (de_callB dc_len lenD_noex T.len bt_len rfl (da_cons (de_dc false [("place", 3)] hu1 rfl hN (di_tup (de_var 2)) (blkOk_by rfl) (fun _ _ _ _ _ => (dg_name 3 hN)) (fun _ _ _ _ _ => dts_nil) (fun _ _ _ _ _ => (de_var 3)) (fun _ _ _ _ _ => de_bl)) da_nil)) (de_callB dc_len lenD_noex T.len bt_len rfl (da_cons (de_var 2) da_nil)))))))
theorem cl_is_way {P : Program} {w : World} {K : PySem.W.Frag} {mg : Str → Option Value} {base : Heap} {g : Gm} (T : Bt mg) (c_need_direction : Cl P w K mg base g 8 21 "need_direction" 2 F_need_direction) (c_is_course_in : Cl P w K mg base g 4 13 "is_course_in" 2 F_is_course_in) {f : Addr} {fd : FuncData} (F : L2.Fun K "is_way" "is_way" s_is_way f fd) (hg : g.fa 22 = some f) (hm : mg "is_way" = some (.ref f)) (b : Binds K fd ["web", "direction", "value"] []) : Cl P w K mg base g 9 22 "is_way" 3 F_is_way :=
  cl_of (N := ["web", "direction", "value", "place"]) (ps := ["web", "direction", "value"]) F sc_is_way hg hm b fun cdv A outer s H E hgd hr => ds_is_way T c_need_direction c_is_course_in hgd hr
abbrev s__law_refused_right : Stmt := top 37
def q__law_refused_right : Str := qLam "_law_refused_right" s__law_refused_right
theorem sc__law_refused_right : FnScope ["pen", "web", "call", "odd", "looped", "least", "place", "more", "other", "one", "two"] ["pen", "web", "call"] (defScope s__law_refused_right) := ⟨rfl, rfl, rfl, by decide +kernel, rfl, by decide +kernel, by decide +kernel⟩
theorem ds__law_refused_right {P : Program} {w : World} {K : PySem.W.Frag} {mg : Str → Option Value} {base : Heap} {g : Gm} (T : Bt mg) (c__law_no_webs : Cl P w K mg base g 1 33 "_law_no_webs" 1 F__law_no_webs) (c__law_draw : Cl P w K mg base g 1 27 "_law_draw" 2 F__law_draw) (c__law_web : Cl P w K mg base g 1 31 "_law_web" 2 F__law_web) (m__law_met : MetC P w K mg base g "_law_met" H__law_met) (so : SubOk K g sub0) (hla_0 : g.la 0 = some L_0) (hla_1 : g.la 1 = some L_1) (hla_2 : g.la 2 = some L_2) (hla_3 : g.la 3 = some L_3) (lo_0 : LOk P w K mg base 9 L_0 1 (spD K g 1 LF_0)) (lo_1 : LOk P w K mg base 9 L_1 1 (spD K g 1 LF_1)) (lo_2 : LOk P w K mg base 10 L_2 1 (spD K g 1 LF_2)) (lo_3 : LOk P w K mg base 9 L_3 1 (spD K g 1 LF_3)) {f : Addr} {cdv : Value} {A : Around} {outer : List Env} {s : Shared} {H : Hp} {E : XK} {cc PP : Addr} (hcode : cdv = .ref cc) (tb : LamX.TabB base mg cc PP) (hT : (PP, q__law_refused_right) ∈ g.T) (hU : ∀ p ∈ g.T, p.1 = PP → p.2 = q__law_refused_right) (hgd : A.guards = some []) (hr : Room 12 (A.deeper (envOfC "_law_refused_right" (defScope s__law_refused_right) s.heap.objs.size f cdv))) :
    DSs (cxOf (L2.CX P w) P w K mg base ["pen", "web", "call", "odd", "looped", "least", "place", "more", "other", "one", "two"] "_law_refused_right" (defScope s__law_refused_right) f cdv A outer s H E) g (fun c d _ H => E c d H) (defBody s__law_refused_right) B__law_refused_right := by
  have hN := sc__law_refused_right.nd
  have hu65 : (A.deeper (envOfC "_law_refused_right" (defScope s__law_refused_right) s.heap.objs.size f cdv)).units + 65 < cLine := by have := hr.un; omega
  have hu64 : (A.deeper (envOfC "_law_refused_right" (defScope s__law_refused_right) s.heap.objs.size f cdv)).units + 64 < cLine := by omega
  have hu1 : (A.deeper (envOfC "_law_refused_right" (defScope s__law_refused_right) s.heap.objs.size f cdv)).units + 1 < cLine := by omega
  have tabl : ∀ j, 10 ≤ j → TabL (cxOf (L2.CX P w) P w K mg base ["pen", "web", "call", "odd", "looped", "least", "place", "more", "other", "one", "two"] "_law_refused_right" (defScope s__law_refused_right) f cdv A outer s H E) g j TLam := fun j hj i n F h L hL => by
    unfold TLam at h
    split at h
    · cases h; rw [hla_0] at hL; cases hL; exact (lo_0.mono (by decide)).mono hj
    · cases h; rw [hla_1] at hL; cases hL; exact (lo_1.mono (by decide)).mono hj
    · cases h; rw [hla_2] at hL; cases hL; exact (lo_2.mono (by decide)).mono hj
    · cases h; rw [hla_3] at hL; cases hL; exact (lo_3.mono (by decide)).mono hj
    · cases h
  exact (dss_cons (ds_for (passes_of rfl) rfl (di_lst (de_call c__law_no_webs hgd hr (by decide) takes_d rfl (da_cons (de_var 1) da_nil))) (dg_name 3 hN) (s := B__law_refused_right_for1) (dss_one (ds_if (dt_cmp (dop_ne hu64) eqD_noex (de_callB (dc_repr hgd hu64) reprD_noex T.repr bt_repr rfl (da_cons (de_met (k := 10) m__law_met so hgd hr (by decide) rfl tb hcode hT hU (LamX.lamS_by (by show LamX.lamSB (defScope s__law_refused_right) _ = true; decide +kernel)) (fun A outer s H E f d hgd hr => (de_callX 2 (fun i n F h => nomatch h) (tabl _ (by decide)) hgd hr (takes_of rfl rfl rfl rfl) (da_cons (de_var 3) da_nil)))) da_nil)) (de_callB (dc_repr hgd hu64) reprD_noex T.repr bt_repr rfl (da_cons (de_tup (da_cons de_str (da_cons (de_var 3) da_nil))) da_nil))) (dss_one (ds_ret de_bl)) dss_nil))) (dss_cons (ds_if (dt_cmp dop_gt iOp_noex (de_ix hu1 (de_var 1) de_int) de_int) (dss_cons (ds_par 6 7 rfl hN (da_cons (de_call c__law_draw hgd hr (by decide) takes_d rfl (da_cons (de_var 0) (da_cons (de_ix hu1 (de_var 1) de_int) da_nil))) (da_cons (de_lc true [("other", 8)] rfl hN (di_range1 T.range (da_cons (de_ix hu1 (de_var 1) de_int) da_nil)) (blkOk_by rfl) (fun _ _ _ _ _ => (dg_name 8 hN)) (fun _ _ _ _ _ => (dts_one (dt_cmp (dop_eq hu64) eqD_noex (de_call c__law_draw hgd hr (by decide) takes0 rfl (da_cons (de_var 0) (da_cons de_int da_nil))) de_int))) (fun _ _ _ _ _ => (de_tup (da_cons (de_var 8) (da_cons (de_var 8) da_nil))))) da_nil))) (dss_cons (ds_set 4 hN (de_call c__law_web hgd hr (by decide) takes_d rfl (da_cons (de_ix hu1 (de_var 1) de_int) (da_cons (de_bin (dop_add true) addD_noex (de_bin (dop_add true) addD_noex (de_callTy (dc_list true rfl) listD_noex T.list bt_list rfl (da_cons (de_ix hu1 (de_var 1) de_int) da_nil)) (de_var 7)) (de_lst (fz := true) (da_cons (de_tup (da_cons (de_var 6) (da_cons (de_var 6) da_nil))) da_nil))) da_nil)))) (dss_cons (ds_set 5 hN (de_callB (dc_minL rfl hu64) bestL_noex T.min bt_min rfl (da_cons (de_lc true [("one", 9), ("two", 10)] rfl hN (di_tup (de_ix hu1 (de_var 4) de_int)) (blkOk_by rfl) (fun _ _ _ _ _ => (dg_tup rfl (dgs_cons (dg_name 9 hN) (dgs_cons (dg_name 10 hN) dgs_nil)) (gl_cons (gl_cons gl_nil)))) (fun _ _ _ _ _ => (dts_one (dt_cmp (dop_eq hu64) eqD_noex (de_var 9) (de_var 10)))) (fun _ _ _ _ _ => (de_var 9))) da_nil))) (dss_one (ds_ret (de_cmp (dop_eq hu64) eqD_noex (de_callB (dc_repr hgd hu64) reprD_noex T.repr bt_repr rfl (da_cons (de_met (k := 10) m__law_met so hgd hr (by decide) rfl tb hcode hT hU (LamX.lamS_by (by show LamX.lamSB (defScope s__law_refused_right) _ = true; decide +kernel)) (fun A outer s H E f d hgd hr => (de_callX 2 (fun i n F h => nomatch h) (tabl _ (by decide)) hgd hr (takes_of rfl rfl rfl rfl) (da_cons (de_var 4) da_nil)))) da_nil)) (de_callB (dc_repr hgd hu64) reprD_noex T.repr bt_repr rfl (da_cons (de_tup (da_cons de_str (da_cons de_str (da_cons (de_var 5) da_nil)))) da_nil)))))))) dss_nil) (dss_one (ds_ret de_bl))))
theorem cl__law_refused_right {P : Program} {w : World} {K : PySem.W.Frag} {mg : Str → Option Value} {base : Heap} {g : Gm} (T : Bt mg) (c__law_no_webs : Cl P w K mg base g 1 33 "_law_no_webs" 1 F__law_no_webs) (c__law_draw : Cl P w K mg base g 1 27 "_law_draw" 2 F__law_draw) (c__law_web : Cl P w K mg base g 1 31 "_law_web" 2 F__law_web) (m__law_met : MetC P w K mg base g "_law_met" H__law_met) (so : SubOk K g sub0) (hla_0 : g.la 0 = some L_0) (hla_1 : g.la 1 = some L_1) (hla_2 : g.la 2 = some L_2) (hla_3 : g.la 3 = some L_3) (lo_0 : LOk P w K mg base 9 L_0 1 (spD K g 1 LF_0)) (lo_1 : LOk P w K mg base 9 L_1 1 (spD K g 1 LF_1)) (lo_2 : LOk P w K mg base 10 L_2 1 (spD K g 1 LF_2)) (lo_3 : LOk P w K mg base 9 L_3 1 (spD K g 1 LF_3)) {f : Addr} {fd : FuncData} (F : L2.Fun K "_law_refused_right" "_law_refused_right" s__law_refused_right f fd) (hg : g.fa 37 = some f) (hm : mg "_law_refused_right" = some (.ref f)) (b : Binds K fd ["pen", "web", "call"] []) (lt : LamT mg base g q__law_refused_right fd) : Cl P w K mg base g 13 37 "_law_refused_right" 3 F__law_refused_right :=
  cl_ofL (N := ["pen", "web", "call", "odd", "looped", "least", "place", "more", "other", "one", "two"]) (ps := ["pen", "web", "call"]) F sc__law_refused_right hg hm b fun cdv A outer s H E hc hgd hr => by
    obtain ⟨cc, PP, h1, h2, h3, h4⟩ := lt.ex
    exact ds__law_refused_right T c__law_no_webs c__law_draw c__law_web m__law_met so hla_0 hla_1 hla_2 hla_3 lo_0 lo_1 lo_2 lo_3 (hc.symm.trans h1) h2 h3 h4 hgd hr
theorem lk_0 {P : Program} {w : World} {K : PySem.W.Frag} {mg : Str → Option Value} {base : Heap} {g : Gm} (T : Bt mg) (c_are_hues : Cl P w K mg base g 8 17 "are_hues" 2 F_are_hues) : LOk P w K mg base 9 L_0 1 (spD K g 1 LF_0) :=
  lok_of (N := ["one"]) (ps := ["one"]) (NdefX.nscope_by (by decide +kernel)) (fun pm cv ctv us hl => match us, hl with | [_], _ => rfl) fun A outer s H E f c hgd hr => have hu65 : (A.deeper (NdefX.envF (nfL L_0 [] c) f s.heap.objs.size)).units + 65 < cLine := (by have := hr.un; omega); have hu64 : (A.deeper (NdefX.envF (nfL L_0 [] c) f s.heap.objs.size)).units + 64 < cLine := (by omega); have hu1 : (A.deeper (NdefX.envF (nfL L_0 [] c) f s.heap.objs.size)).units + 1 < cLine := (by omega); (de_call c_are_hues hgd hr (by decide) (takes_of rfl rfl rfl rfl) rfl (da_cons (de_var 0) (da_cons de_non da_nil)))
theorem lk_1 {P : Program} {w : World} {K : PySem.W.Frag} {mg : Str → Option Value} {base : Heap} {g : Gm} (T : Bt mg) (c_is_direction : Cl P w K mg base g 8 20 "is_direction" 2 F_is_direction) : LOk P w K mg base 9 L_1 1 (spD K g 1 LF_1) :=
  lok_of (N := ["one"]) (ps := ["one"]) (NdefX.nscope_by (by decide +kernel)) (fun pm cv ctv us hl => match us, hl with | [_], _ => rfl) fun A outer s H E f c hgd hr => (de_call c_is_direction hgd hr (by decide) (takes_of rfl rfl rfl rfl) rfl (da_cons (de_var 0) (da_cons de_non da_nil)))
theorem lk_2 {P : Program} {w : World} {K : PySem.W.Frag} {mg : Str → Option Value} {base : Heap} {g : Gm} (T : Bt mg) (c_is_way : Cl P w K mg base g 9 22 "is_way" 3 F_is_way) : LOk P w K mg base 10 L_2 1 (spD K g 1 LF_2) :=
  lok_of (N := ["one"]) (ps := ["one"]) (NdefX.nscope_by (by decide +kernel)) (fun pm cv ctv us hl => match us, hl with | [_], _ => rfl) fun A outer s H E f c hgd hr => (de_call c_is_way hgd hr (by decide) (takes_of rfl rfl rfl rfl) rfl (da_cons (de_var 0) (da_cons de_non (da_cons de_non da_nil))))
theorem lk_3 {P : Program} {w : World} {K : PySem.W.Frag} {mg : Str → Option Value} {base : Heap} {g : Gm} (T : Bt mg) (c_direction_by : Cl P w K mg base g 8 24 "direction_by" 2 F_direction_by) : LOk P w K mg base 9 L_3 1 (spD K g 1 LF_3) :=
  lok_of (N := ["one"]) (ps := ["one"]) (NdefX.nscope_by (by decide +kernel)) (fun pm cv ctv us hl => match us, hl with | [_], _ => rfl) fun A outer s H E f c hgd hr => (de_call c_direction_by hgd hr (by decide) (takes_of rfl rfl rfl rfl) rfl (da_cons (de_var 0) (da_cons de_non da_nil)))
theorem sc_law : FnScope ["script", "pen", "turn", "web", "hues", "few", "value", "ways", "lap", "some", "calls", "n", "direction", "is_one", "due", "place", "way", "call", "tie", "two"] ["script"] (defScope s_law) := ⟨rfl, rfl, rfl, by decide +kernel, rfl, by decide +kernel, by decide +kernel⟩
theorem ds_law {P : Program} {w : World} {K : PySem.W.Frag} {mg : Str → Option Value} {base : Heap} {g : Gm} (T : Bt mg) (c__law_pen : Cl P w K mg base g 1 26 "_law_pen" 1 F__law_pen) (c__law_bare : Cl P w K mg base g 4 34 "_law_bare" 2 F__law_bare) (c__law_draw : Cl P w K mg base g 1 27 "_law_draw" 2 F__law_draw) (c__law_direction : Cl P w K mg base g 2 35 "_law_direction" 2 F__law_direction) (c__law_shuffled : Cl P w K mg base g 2 29 "_law_shuffled" 2 F__law_shuffled) (c__law_bent : Cl P w K mg base g 2 40 "_law_bent" 2 F__law_bent) (c__law_are_hues : Cl P w K mg base g 1 36 "_law_are_hues" 2 F__law_are_hues) (c_are_hues : Cl P w K mg base g 8 17 "are_hues" 2 F_are_hues) (c_direction_by : Cl P w K mg base g 8 24 "direction_by" 2 F_direction_by) (c__law_is_direction : Cl P w K mg base g 1 38 "_law_is_direction" 2 F__law_is_direction) (c_is_direction : Cl P w K mg base g 8 20 "is_direction" 2 F_is_direction) (c_is_way : Cl P w K mg base g 9 22 "is_way" 3 F_is_way) (c__law_is_way : Cl P w K mg base g 1 39 "_law_is_way" 3 F__law_is_way) (c__law_refused_right : Cl P w K mg base g 13 37 "_law_refused_right" 3 F__law_refused_right) (m__law_met : MetC P w K mg base g "_law_met" H__law_met) (so : SubOk K g sub0) (hla_0 : g.la 0 = some L_0) (hla_1 : g.la 1 = some L_1) (hla_2 : g.la 2 = some L_2) (hla_3 : g.la 3 = some L_3) {f : Addr} {cdv : Value} {A : Around} {outer : List Env} {s : Shared} {H : Hp} {E : XK} {cc PP : Addr} (hcode : cdv = .ref cc) (tb : LamX.TabB base mg cc PP) (hT : (PP, q_law) ∈ g.T) (hU : ∀ p ∈ g.T, p.1 = PP → p.2 = q_law) (hgd : A.guards = some []) (hr : Room 13 (A.deeper (envOfC "law" (defScope s_law) s.heap.objs.size f cdv))) :
    DSs (cxOf (L2.CX P w) P w K mg base ["script", "pen", "turn", "web", "hues", "few", "value", "ways", "lap", "some", "calls", "n", "direction", "is_one", "due", "place", "way", "call", "tie", "two"] "law" (defScope s_law) f cdv A outer s H E) g (fun c d _ H => E c d H) (defBody s_law) B_law := by
  have hN := sc_law.nd
  have hu65 : (A.deeper (envOfC "law" (defScope s_law) s.heap.objs.size f cdv)).units + 65 < cLine := by have := hr.un; omega
  have hu64 : (A.deeper (envOfC "law" (defScope s_law) s.heap.objs.size f cdv)).units + 64 < cLine := by omega
  have hu1 : (A.deeper (envOfC "law" (defScope s_law) s.heap.objs.size f cdv)).units + 1 < cLine := by omega
  exact (dss_cons (ds_set 1 hN (de_call c__law_pen hgd hr (by decide) takes_d rfl (da_cons (de_var 0) da_nil))) (dss_cons (ds_for (passes_of rfl) rfl (di_range1 T.range (da_cons (de_bin (dop_add true) addD_noex de_int (de_callB (dc_min2 rfl) min2D_noex T.min bt_min rfl (da_cons de_int (da_cons (de_callB dc_len lenD_noex T.len bt_len rfl (da_cons (de_var 0) da_nil)) da_nil)))) da_nil)) (dg_name 2 hN) (s := B_law_for5) (dss_cons (ds_set 3 hN (de_call c__law_bare hgd hr (by decide) takes_d rfl (da_cons (de_var 1) (da_cons (de_call c__law_draw hgd hr (by decide) takes_d rfl (da_cons (de_var 1) (da_cons de_int da_nil))) da_nil)))) (dss_cons (ds_asg (de_tup (da_cons (de_ix hu1 (de_var 3) de_int) (da_cons (de_call c__law_direction hgd hr (by decide) takes_d rfl (da_cons (de_var 1) (da_cons (de_var 3) da_nil))) da_nil))) (dg_tup rfl (dgs_cons (dg_name 11 hN) (dgs_cons (dg_name 12 hN) dgs_nil)) (gl_cons (gl_cons gl_nil)))) (dss_cons (ds_set 4 hN (de_callTy dc_tuple tupleD_noex T.tuple bt_tuple rfl (da_cons (de_slice true (de_call c__law_shuffled hgd hr (by decide) takes_d rfl (da_cons (de_var 1) (da_cons (de_listR1 true rfl T.list T.range rfl rfl (de_bin (dop_add true) addD_noex (de_var 11) de_int)) da_nil))) do_no (do_some (de_var 11))) da_nil))) (dss_cons (ds_set 5 hN (de_callTy dc_tuple tupleD_noex T.tuple bt_tuple rfl (da_cons (de_lc true [("place", 15)] rfl hN (di_range1 T.range (da_cons (de_var 11) da_nil)) (blkOk_by rfl) (fun _ _ _ _ _ => (dg_name 15 hN)) (fun _ _ _ _ _ => dts_nil) (fun _ _ _ _ _ => (de_call c__law_draw hgd hr (by decide) takes0 rfl (da_cons (de_var 1) (da_cons de_int da_nil))))) da_nil))) (dss_cons (ds_for (passes_of rfl) rfl (di_lst (de_bin (dop_add true) addD_noex (de_lst (fz := true) (da_cons (de_var 4) (da_cons (de_var 5) da_nil))) (de_call c__law_bent hgd hr (by decide) takes_d rfl (da_cons (de_var 1) (da_cons (de_var 4) da_nil))))) (dg_name 6 hN) (s := B_law_for1) (dss_cons (ds_set 13 hN (de_call c__law_are_hues hgd hr (by decide) takes_d rfl (da_cons (de_var 3) (da_cons (de_var 6) da_nil)))) (dss_cons (ds_set 14 hN (de_tup (da_cons de_str (da_cons (de_var 6) da_nil)))) (dss_cons (ds_if (dt_tru (de_var 13)) (dss_one (ds_set 14 hN (de_callTy dc_tuple tupleD_noex T.tuple bt_tuple rfl (da_cons (de_lc true [("tie", 18)] rfl hN (di_tup (de_ix hu1 (de_var 3) de_int)) (blkOk_by rfl) (fun _ _ _ _ _ => (dg_name 18 hN)) (fun _ _ _ _ _ => dts_nil) (fun _ _ _ _ _ => (de_if (dt_cmp (dop_lt hu64) ltD_noex (de_ix hu1 (de_var 6) (de_ix hu1 (de_var 18) de_int)) (de_ix hu1 (de_var 6) (de_ix hu1 (de_var 18) de_int))) (de_var 18) (de_rev (de_var 18))))) da_nil)))) dss_nil) (dss_cons (ds_if (dt_cmp (dop_ne hu64) eqD_noex (de_callB (dc_repr hgd hu64) reprD_noex T.repr bt_repr rfl (da_cons (de_call c_are_hues hgd hr (by decide) takes_d rfl (da_cons (de_var 3) (da_cons (de_var 6) da_nil))) da_nil)) (de_callB (dc_repr hgd hu64) reprD_noex T.repr bt_repr rfl (da_cons (de_var 13) da_nil))) (dss_one (ds_ret de_bl)) dss_nil) (dss_one (ds_if (dt_cmp (dop_ne hu64) eqD_noex (de_callB (dc_repr hgd hu64) reprD_noex T.repr bt_repr rfl (da_cons (de_met (k := 11) m__law_met so hgd hr (by decide) rfl tb hcode hT hU (LamX.lamS_by (by show LamX.lamSB (defScope s_law) _ = true; decide +kernel)) (fun A outer s H E f d hgd hr => (de_call c_direction_by hgd hr (by decide) (takes_of rfl rfl rfl rfl) rfl (da_cons (de_var 3) (da_cons (de_var 6) da_nil))))) da_nil)) (de_callB (dc_repr hgd hu64) reprD_noex T.repr bt_repr rfl (da_cons (de_var 14) da_nil))) (dss_one (ds_ret de_bl)) dss_nil))))))) (dss_cons (ds_for (passes_of rfl) rfl (di_lst (de_bin (dop_add true) addD_noex (de_lst (fz := true) (da_cons (de_var 12) (da_cons (de_ix hu1 (de_var 3) de_int) da_nil))) (de_call c__law_bent hgd hr (by decide) takes_d rfl (da_cons (de_var 1) (da_cons (de_var 12) da_nil))))) (dg_name 6 hN) (s := B_law_for2) (dss_cons (ds_set 13 hN (de_call c__law_is_direction hgd hr (by decide) takes_d rfl (da_cons (de_var 3) (da_cons (de_var 6) da_nil)))) (dss_cons (ds_if (dt_cmp (dop_ne hu64) eqD_noex (de_callB (dc_repr hgd hu64) reprD_noex T.repr bt_repr rfl (da_cons (de_call c_is_direction hgd hr (by decide) takes_d rfl (da_cons (de_var 3) (da_cons (de_var 6) da_nil))) da_nil)) (de_callB (dc_repr hgd hu64) reprD_noex T.repr bt_repr rfl (da_cons (de_var 13) da_nil))) (dss_one (ds_ret de_bl)) dss_nil) (dss_one (ds_if (DW.dt (dw_and (dt_not (dt_tru (de_var 13))) (dw_and1 (dt_cmp (dop_ne hu64) eqD_noex (de_callB (dc_repr hgd hu64) reprD_noex T.repr bt_repr rfl (da_cons (de_met (k := 11) m__law_met so hgd hr (by decide) rfl tb hcode hT hU (LamX.lamS_by (by show LamX.lamSB (defScope s_law) _ = true; decide +kernel)) (fun A outer s H E f d hgd hr => (de_call c_is_way hgd hr (by decide) (takes_of rfl rfl rfl rfl) rfl (da_cons (de_var 3) (da_cons (de_var 6) (da_cons de_non da_nil)))))) da_nil)) (de_callB (dc_repr hgd hu64) reprD_noex T.repr bt_repr rfl (da_cons (de_tup (da_cons de_str (da_cons (de_var 6) da_nil))) da_nil)))))) (dss_one (ds_ret de_bl)) dss_nil))))) (dss_cons (ds_setLc true 7 [("place", 15)] rfl hN (di_range1 T.range (da_cons (de_var 11) da_nil)) (blkOk_by rfl) (fun _ _ _ _ _ => (dg_name 15 hN)) (fun _ _ _ _ _ => dts_nil) (fun _ _ _ _ _ => (de_tup (da_cons (de_var 15) da_nil)))) (dss_cons (ds_for (passes_of rfl) rfl (di_range1 T.range (da_cons de_int da_nil)) (dg_name 8 hN) (s := B_law_for3) (dss_one (ds_set 7 hN (de_bin (dop_add true) addD_noex (de_var 7) (de_slice true (de_callB (dc_sumLs rfl) sumLsD_noex T.sum bt_sum rfl (da_cons (de_lc true [("way", 16)] rfl hN (di_lst (de_slice true (de_var 7) (do_some (de_neg de_int)) do_no)) (blkOk_by rfl) (fun _ _ _ _ _ => (dg_name 16 hN)) (fun _ _ _ _ _ => dts_nil) (fun _ _ _ _ _ => (de_lc true [("two", 19)] rfl hN (di_range1 T.range (da_cons (de_var 11) da_nil)) (blkOk_by rfl) (fun _ _ _ _ _ => (dg_name 19 hN)) (fun _ _ _ _ _ => dts_nil) (fun _ _ _ _ _ => (de_bin (dop_add true) addD_noex (de_var 16) (de_tup (da_cons (de_var 19) da_nil))))))) (da_cons (de_lst (fz := true) da_nil) da_nil))) do_no (do_some de_int)))))) (dss_cons (ds_set 9 hN (de_bin (dop_add true) addD_noex (de_bin (dop_add true) addD_noex (de_lst (fz := true) (da_cons de_non (da_cons (de_tup da_nil) (da_cons (de_tup (da_cons (de_var 11) da_nil)) (da_cons (de_lst (fz := true) (da_cons de_int da_nil)) (da_cons (de_tup (da_cons de_bl da_nil)) (da_cons (de_tup (da_cons de_str da_nil)) da_nil))))))) (de_var 7)) (de_lc true [("way", 16)] rfl hN (di_lst (de_slice true (de_var 7) (do_some (de_neg de_int)) do_no)) (blkOk_by rfl) (fun _ _ _ _ _ => (dg_name 16 hN)) (fun _ _ _ _ _ => dts_nil) (fun _ _ _ _ _ => (de_bin (dop_add true) addD_noex (de_var 16) (de_slice true (de_var 16) do_no (do_some de_int))))))) (dss_cons (ds_for (passes_of rfl) rfl (di_lst (de_var 9)) (dg_name 6 hN) (s := B_law_for4) (dss_one (ds_if (dt_cmp (dop_ne hu64) eqD_noex (de_callB (dc_repr hgd hu64) reprD_noex T.repr bt_repr rfl (da_cons (de_call c_is_way hgd hr (by decide) takes_d rfl (da_cons (de_var 3) (da_cons (de_var 12) (da_cons (de_var 6) da_nil)))) da_nil)) (de_callB (dc_repr hgd hu64) reprD_noex T.repr bt_repr rfl (da_cons (de_call c__law_is_way hgd hr (by decide) takes_d rfl (da_cons (de_var 3) (da_cons (de_var 12) (da_cons (de_var 6) da_nil)))) da_nil))) (dss_one (ds_ret de_bl)) dss_nil))) (dss_cons (ds_set 10 hN (de_lst (fz := false) (da_cons (de_lamV 0 tb hcode hT hU hla_0) da_nil))) (dss_cons (ds_expr (de_bm PySem.F.slot_list_append PySem.F.type_list_append mt_appendD appendD_noex (de_var 10) (da_cons (de_lamV 1 tb hcode hT hU hla_1) da_nil))) (dss_cons (ds_expr (de_bm PySem.F.slot_list_append PySem.F.type_list_append mt_appendD appendD_noex (de_var 10) (da_cons (de_lamV 2 tb hcode hT hU hla_2) da_nil))) (dss_cons (ds_expr (de_bm PySem.F.slot_list_append PySem.F.type_list_append mt_appendD appendD_noex (de_var 10) (da_cons (de_lamV 3 tb hcode hT hU hla_3) da_nil))) (dss_one (ds_if (dt_cmp (dop_ne hu64) eqD_noex (de_lc true [("call", 17)] rfl hN (di_lst (de_fz (de_var 10))) (blkOk_by rfl) (fun _ _ _ _ _ => (dg_name 17 hN)) (fun _ _ _ _ _ => (dts_one (dt_not (dt_tru (de_call c__law_refused_right hgd hr (by decide) takes0 rfl (da_cons (de_var 1) (da_cons (de_var 3) (da_cons (de_var 17) da_nil)))))))) (fun _ _ _ _ _ => (de_var 17))) (de_lst (fz := true) da_nil)) (dss_one (ds_ret de_bl)) dss_nil))))))))))))))))) (dss_one (ds_ret de_bl))))
theorem fn_law {P : Program} {w : World} {K : PySem.W.Frag} {mg : Str → Option Value} {base : Heap} {g : Gm} (T : Bt mg) (c__law_pen : Cl P w K mg base g 1 26 "_law_pen" 1 F__law_pen) (c__law_bare : Cl P w K mg base g 4 34 "_law_bare" 2 F__law_bare) (c__law_draw : Cl P w K mg base g 1 27 "_law_draw" 2 F__law_draw) (c__law_direction : Cl P w K mg base g 2 35 "_law_direction" 2 F__law_direction) (c__law_shuffled : Cl P w K mg base g 2 29 "_law_shuffled" 2 F__law_shuffled) (c__law_bent : Cl P w K mg base g 2 40 "_law_bent" 2 F__law_bent) (c__law_are_hues : Cl P w K mg base g 1 36 "_law_are_hues" 2 F__law_are_hues) (c_are_hues : Cl P w K mg base g 8 17 "are_hues" 2 F_are_hues) (c_direction_by : Cl P w K mg base g 8 24 "direction_by" 2 F_direction_by) (c__law_is_direction : Cl P w K mg base g 1 38 "_law_is_direction" 2 F__law_is_direction) (c_is_direction : Cl P w K mg base g 8 20 "is_direction" 2 F_is_direction) (c_is_way : Cl P w K mg base g 9 22 "is_way" 3 F_is_way) (c__law_is_way : Cl P w K mg base g 1 39 "_law_is_way" 3 F__law_is_way) (c__law_refused_right : Cl P w K mg base g 13 37 "_law_refused_right" 3 F__law_refused_right) (m__law_met : MetC P w K mg base g "_law_met" H__law_met) (so : SubOk K g sub0) (hla_0 : g.la 0 = some L_0) (hla_1 : g.la 1 = some L_1) (hla_2 : g.la 2 = some L_2) (hla_3 : g.la 3 = some L_3) {f : Addr} {fd : FuncData} (F : L2.Fun K "law" "law" s_law f fd) (lt : LamT mg base g q_law fd) : FnG P w K mg base 14 f fd ["script"] (spD K g 1 F_law) :=
  fng_dL (N := ["script", "pen", "turn", "web", "hues", "few", "value", "ways", "lap", "some", "calls", "n", "direction", "is_one", "due", "place", "way", "call", "tie", "two"]) (ps := ["script"]) F sc_law fun cdv A outer s H E hc hgd hr => by
    obtain ⟨cc, PP, h1, h2, h3, h4⟩ := lt.ex
    exact ds_law T c__law_pen c__law_bare c__law_draw c__law_direction c__law_shuffled c__law_bent c__law_are_hues c_are_hues c_direction_by c__law_is_direction c_is_direction c_is_way c__law_is_way c__law_refused_right m__law_met so hla_0 hla_1 hla_2 hla_3 (hc.symm.trans h1) h2 h3 h4 hgd hr
end Dl

set_option Elab.async false
set_option linter.all false
set_option autoImplicit false
set_option maxRecDepth 100000
set_option maxHeartbeats 0
/-! Printed by gen.py: the head. -/
namespace Dl
open PySem PySem.Spec PyProof.Rows L2
def gmT (f0 f1 f2 f3 f4 f5 f6 f7 f8 f9 f10 f11 f12 f13 f14 f15 f16 f17 f18 f19 f20 f21 f22 f23 f24 f25 f26 f27 f28 f29 f30 f31 f32 CBadWeb CBadRow CNotKept PP30 PP31 : Addr) : Gm where
  fa := fun i => match i with
    | 5 => some f0
    | 23 => some f1
    | 26 => some f2
    | 27 => some f3
    | 31 => some f4
    | 33 => some f5
    | 36 => some f6
    | 38 => some f7
    | 39 => some f8
    | 6 => some f9
    | 28 => some f10
    | 29 => some f11
    | 35 => some f12
    | 40 => some f13
    | 8 => some f14
    | 16 => some f15
    | 18 => some f16
    | 32 => some f17
    | 9 => some f18
    | 13 => some f19
    | 19 => some f20
    | 34 => some f21
    | 10 => some f22
    | 11 => some f23
    | 15 => some f24
    | 17 => some f25
    | 20 => some f26
    | 21 => some f27
    | 24 => some f28
    | 22 => some f29
    | 37 => some f30
    | 41 => some f31
    | 30 => some f32
    | _ => none
  ca := fun i => match i with
    | 2 => some CBadWeb
    | 3 => some CBadRow
    | 4 => some CNotKept
    | _ => none
  la := fun i => match i with
    | 0 => some L_0
    | 1 => some L_1
    | 2 => some L_2
    | 3 => some L_3
    | _ => none
  T := [(PP30, q__law_refused_right), (PP31, q_law)]
theorem all_mk {l : PySem.W.OpenLaw} {w : World} {K : PySem.W.Frag} {h : Heap} {mg : Str → Option Value} {fa : Addr} {q : Program} (X : K.In h) (G : h.Ns mainGlobals mg) (hfa : mg "law" = some (.ref fa)) (own : ∀ (y : Str) (fx : Addr), ((recsOf q).any fun e => e.name == y) = true → mg y = some (.ref fx) → TabOf K h fx)
    {f0 : Addr} {od0 an0 : Option Addr} {sl0 : Array (Option Value)} {oc0 kV0 dc0 pm0 cd0 ct0 : Value} (a0 : PySem.W.nsIn K mainGlobals "is_whole" = some (some (.ref f0))) (l0 : K.lookup f0 = some ⟨oc0, od0, .func (PySem.W.fnOf "is_whole" "is_whole" (defArgs s_is_whole) (defBody s_is_whole) (defScope s_is_whole) .none kV0 dc0 pm0 an0 cd0 ct0), sl0⟩) (c0 : PySem.W.codeIn K cd0 "is_whole" = true) (k0 : PySem.W.keepIn K (.ref f0) = true)
    {f1 : Addr} {od1 an1 : Option Addr} {sl1 : Array (Option Value)} {oc1 kV1 dc1 pm1 cd1 ct1 : Value} (a1 : PySem.W.nsIn K mainGlobals "hued_direction" = some (some (.ref f1))) (l1 : K.lookup f1 = some ⟨oc1, od1, .func (PySem.W.fnOf "hued_direction" "hued_direction" (defArgs s_hued_direction) (defBody s_hued_direction) (defScope s_hued_direction) .none kV1 dc1 pm1 an1 cd1 ct1), sl1⟩) (c1 : PySem.W.codeIn K cd1 "hued_direction" = true) (k1 : PySem.W.keepIn K (.ref f1) = true)
    {f2 : Addr} {od2 an2 : Option Addr} {sl2 : Array (Option Value)} {oc2 kV2 dc2 pm2 cd2 ct2 : Value} (a2 : PySem.W.nsIn K mainGlobals "_law_pen" = some (some (.ref f2))) (l2 : K.lookup f2 = some ⟨oc2, od2, .func (PySem.W.fnOf "_law_pen" "_law_pen" (defArgs s__law_pen) (defBody s__law_pen) (defScope s__law_pen) .none kV2 dc2 pm2 an2 cd2 ct2), sl2⟩) (c2 : PySem.W.codeIn K cd2 "_law_pen" = true) (k2 : PySem.W.keepIn K (.ref f2) = true)
    {f3 : Addr} {od3 an3 : Option Addr} {sl3 : Array (Option Value)} {oc3 kV3 dc3 pm3 cd3 ct3 : Value} (a3 : PySem.W.nsIn K mainGlobals "_law_draw" = some (some (.ref f3))) (l3 : K.lookup f3 = some ⟨oc3, od3, .func (PySem.W.fnOf "_law_draw" "_law_draw" (defArgs s__law_draw) (defBody s__law_draw) (defScope s__law_draw) .none kV3 dc3 pm3 an3 cd3 ct3), sl3⟩) (c3 : PySem.W.codeIn K cd3 "_law_draw" = true) (k3 : PySem.W.keepIn K (.ref f3) = true)
    {f4 : Addr} {od4 an4 : Option Addr} {sl4 : Array (Option Value)} {oc4 kV4 dc4 pm4 cd4 ct4 : Value} (a4 : PySem.W.nsIn K mainGlobals "_law_web" = some (some (.ref f4))) (l4 : K.lookup f4 = some ⟨oc4, od4, .func (PySem.W.fnOf "_law_web" "_law_web" (defArgs s__law_web) (defBody s__law_web) (defScope s__law_web) .none kV4 dc4 pm4 an4 cd4 ct4), sl4⟩) (c4 : PySem.W.codeIn K cd4 "_law_web" = true) (k4 : PySem.W.keepIn K (.ref f4) = true)
    {f5 : Addr} {od5 an5 : Option Addr} {sl5 : Array (Option Value)} {oc5 kV5 dc5 pm5 cd5 ct5 : Value} (a5 : PySem.W.nsIn K mainGlobals "_law_no_webs" = some (some (.ref f5))) (l5 : K.lookup f5 = some ⟨oc5, od5, .func (PySem.W.fnOf "_law_no_webs" "_law_no_webs" (defArgs s__law_no_webs) (defBody s__law_no_webs) (defScope s__law_no_webs) .none kV5 dc5 pm5 an5 cd5 ct5), sl5⟩) (c5 : PySem.W.codeIn K cd5 "_law_no_webs" = true) (k5 : PySem.W.keepIn K (.ref f5) = true)
    {f6 : Addr} {od6 an6 : Option Addr} {sl6 : Array (Option Value)} {oc6 kV6 dc6 pm6 cd6 ct6 : Value} (a6 : PySem.W.nsIn K mainGlobals "_law_are_hues" = some (some (.ref f6))) (l6 : K.lookup f6 = some ⟨oc6, od6, .func (PySem.W.fnOf "_law_are_hues" "_law_are_hues" (defArgs s__law_are_hues) (defBody s__law_are_hues) (defScope s__law_are_hues) .none kV6 dc6 pm6 an6 cd6 ct6), sl6⟩) (c6 : PySem.W.codeIn K cd6 "_law_are_hues" = true) (k6 : PySem.W.keepIn K (.ref f6) = true)
    {f7 : Addr} {od7 an7 : Option Addr} {sl7 : Array (Option Value)} {oc7 kV7 dc7 pm7 cd7 ct7 : Value} (a7 : PySem.W.nsIn K mainGlobals "_law_is_direction" = some (some (.ref f7))) (l7 : K.lookup f7 = some ⟨oc7, od7, .func (PySem.W.fnOf "_law_is_direction" "_law_is_direction" (defArgs s__law_is_direction) (defBody s__law_is_direction) (defScope s__law_is_direction) .none kV7 dc7 pm7 an7 cd7 ct7), sl7⟩) (c7 : PySem.W.codeIn K cd7 "_law_is_direction" = true) (k7 : PySem.W.keepIn K (.ref f7) = true)
    {f8 : Addr} {od8 an8 : Option Addr} {sl8 : Array (Option Value)} {oc8 kV8 dc8 pm8 cd8 ct8 : Value} (a8 : PySem.W.nsIn K mainGlobals "_law_is_way" = some (some (.ref f8))) (l8 : K.lookup f8 = some ⟨oc8, od8, .func (PySem.W.fnOf "_law_is_way" "_law_is_way" (defArgs s__law_is_way) (defBody s__law_is_way) (defScope s__law_is_way) .none kV8 dc8 pm8 an8 cd8 ct8), sl8⟩) (c8 : PySem.W.codeIn K cd8 "_law_is_way" = true) (k8 : PySem.W.keepIn K (.ref f8) = true)
    {f9 : Addr} {od9 an9 : Option Addr} {sl9 : Array (Option Value)} {oc9 kV9 dc9 pm9 cd9 ct9 : Value} (a9 : PySem.W.nsIn K mainGlobals "is_count" = some (some (.ref f9))) (l9 : K.lookup f9 = some ⟨oc9, od9, .func (PySem.W.fnOf "is_count" "is_count" (defArgs s_is_count) (defBody s_is_count) (defScope s_is_count) .none kV9 dc9 pm9 an9 cd9 ct9), sl9⟩) (c9 : PySem.W.codeIn K cd9 "is_count" = true) (k9 : PySem.W.keepIn K (.ref f9) = true)
    {f10 : Addr} {od10 an10 : Option Addr} {sl10 : Array (Option Value)} {oc10 kV10 dc10 pm10 cd10 ct10 : Value} (a10 : PySem.W.nsIn K mainGlobals "_law_pick" = some (some (.ref f10))) (l10 : K.lookup f10 = some ⟨oc10, od10, .func (PySem.W.fnOf "_law_pick" "_law_pick" (defArgs s__law_pick) (defBody s__law_pick) (defScope s__law_pick) .none kV10 dc10 pm10 an10 cd10 ct10), sl10⟩) (c10 : PySem.W.codeIn K cd10 "_law_pick" = true) (k10 : PySem.W.keepIn K (.ref f10) = true)
    {f11 : Addr} {od11 an11 : Option Addr} {sl11 : Array (Option Value)} {oc11 kV11 dc11 pm11 cd11 ct11 : Value} (a11 : PySem.W.nsIn K mainGlobals "_law_shuffled" = some (some (.ref f11))) (l11 : K.lookup f11 = some ⟨oc11, od11, .func (PySem.W.fnOf "_law_shuffled" "_law_shuffled" (defArgs s__law_shuffled) (defBody s__law_shuffled) (defScope s__law_shuffled) .none kV11 dc11 pm11 an11 cd11 ct11), sl11⟩) (c11 : PySem.W.codeIn K cd11 "_law_shuffled" = true) (k11 : PySem.W.keepIn K (.ref f11) = true)
    {f12 : Addr} {od12 an12 : Option Addr} {sl12 : Array (Option Value)} {oc12 kV12 dc12 pm12 cd12 ct12 : Value} (a12 : PySem.W.nsIn K mainGlobals "_law_direction" = some (some (.ref f12))) (l12 : K.lookup f12 = some ⟨oc12, od12, .func (PySem.W.fnOf "_law_direction" "_law_direction" (defArgs s__law_direction) (defBody s__law_direction) (defScope s__law_direction) .none kV12 dc12 pm12 an12 cd12 ct12), sl12⟩) (c12 : PySem.W.codeIn K cd12 "_law_direction" = true) (k12 : PySem.W.keepIn K (.ref f12) = true)
    {f13 : Addr} {od13 an13 : Option Addr} {sl13 : Array (Option Value)} {oc13 kV13 dc13 pm13 cd13 ct13 : Value} (a13 : PySem.W.nsIn K mainGlobals "_law_bent" = some (some (.ref f13))) (l13 : K.lookup f13 = some ⟨oc13, od13, .func (PySem.W.fnOf "_law_bent" "_law_bent" (defArgs s__law_bent) (defBody s__law_bent) (defScope s__law_bent) .none kV13 dc13 pm13 an13 cd13 ct13), sl13⟩) (c13 : PySem.W.codeIn K cd13 "_law_bent" = true) (k13 : PySem.W.keepIn K (.ref f13) = true)
    {f14 : Addr} {od14 an14 : Option Addr} {sl14 : Array (Option Value)} {oc14 kV14 dc14 pm14 cd14 ct14 : Value} (a14 : PySem.W.nsIn K mainGlobals "is_place" = some (some (.ref f14))) (l14 : K.lookup f14 = some ⟨oc14, od14, .func (PySem.W.fnOf "is_place" "is_place" (defArgs s_is_place) (defBody s_is_place) (defScope s_is_place) .none kV14 dc14 pm14 an14 cd14 ct14), sl14⟩) (c14 : PySem.W.codeIn K cd14 "is_place" = true) (k14 : PySem.W.keepIn K (.ref f14) = true)
    {f15 : Addr} {od15 an15 : Option Addr} {sl15 : Array (Option Value)} {oc15 kV15 dc15 pm15 cd15 ct15 : Value} (a15 : PySem.W.nsIn K mainGlobals "are_hues_in" = some (some (.ref f15))) (l15 : K.lookup f15 = some ⟨oc15, od15, .func (PySem.W.fnOf "are_hues_in" "are_hues_in" (defArgs s_are_hues_in) (defBody s_are_hues_in) (defScope s_are_hues_in) .none kV15 dc15 pm15 an15 cd15 ct15), sl15⟩) (c15 : PySem.W.codeIn K cd15 "are_hues_in" = true) (k15 : PySem.W.keepIn K (.ref f15) = true)
    {f16 : Addr} {od16 an16 : Option Addr} {sl16 : Array (Option Value)} {oc16 kV16 dc16 pm16 cd16 ct16 : Value} (a16 : PySem.W.nsIn K mainGlobals "is_item_of" = some (some (.ref f16))) (l16 : K.lookup f16 = some ⟨oc16, od16, .func (PySem.W.fnOf "is_item_of" "is_item_of" (defArgs s_is_item_of) (defBody s_is_item_of) (defScope s_is_item_of) .none kV16 dc16 pm16 an16 cd16 ct16), sl16⟩) (c16 : PySem.W.codeIn K cd16 "is_item_of" = true) (k16 : PySem.W.keepIn K (.ref f16) = true)
    {f17 : Addr} {od17 an17 : Option Addr} {sl17 : Array (Option Value)} {oc17 kV17 dc17 pm17 cd17 ct17 : Value} (a17 : PySem.W.nsIn K mainGlobals "_law_some_web" = some (some (.ref f17))) (l17 : K.lookup f17 = some ⟨oc17, od17, .func (PySem.W.fnOf "_law_some_web" "_law_some_web" (defArgs s__law_some_web) (defBody s__law_some_web) (defScope s__law_some_web) .none kV17 dc17 pm17 an17 cd17 ct17), sl17⟩) (c17 : PySem.W.codeIn K cd17 "_law_some_web" = true) (k17 : PySem.W.keepIn K (.ref f17) = true)
    {f18 : Addr} {od18 an18 : Option Addr} {sl18 : Array (Option Value)} {oc18 kV18 dc18 pm18 cd18 ct18 : Value} (a18 : PySem.W.nsIn K mainGlobals "is_tie" = some (some (.ref f18))) (l18 : K.lookup f18 = some ⟨oc18, od18, .func (PySem.W.fnOf "is_tie" "is_tie" (defArgs s_is_tie) (defBody s_is_tie) (defScope s_is_tie) .none kV18 dc18 pm18 an18 cd18 ct18), sl18⟩) (c18 : PySem.W.codeIn K cd18 "is_tie" = true) (k18 : PySem.W.keepIn K (.ref f18) = true)
    {f19 : Addr} {od19 an19 : Option Addr} {sl19 : Array (Option Value)} {oc19 kV19 dc19 pm19 cd19 ct19 : Value} (a19 : PySem.W.nsIn K mainGlobals "is_course_in" = some (some (.ref f19))) (l19 : K.lookup f19 = some ⟨oc19, od19, .func (PySem.W.fnOf "is_course_in" "is_course_in" (defArgs s_is_course_in) (defBody s_is_course_in) (defScope s_is_course_in) .none kV19 dc19 pm19 an19 cd19 ct19), sl19⟩) (c19 : PySem.W.codeIn K cd19 "is_course_in" = true) (k19 : PySem.W.keepIn K (.ref f19) = true)
    {f20 : Addr} {od20 an20 : Option Addr} {sl20 : Array (Option Value)} {oc20 kV20 dc20 pm20 cd20 ct20 : Value} (a20 : PySem.W.nsIn K mainGlobals "is_direction_in" = some (some (.ref f20))) (l20 : K.lookup f20 = some ⟨oc20, od20, .func (PySem.W.fnOf "is_direction_in" "is_direction_in" (defArgs s_is_direction_in) (defBody s_is_direction_in) (defScope s_is_direction_in) .none kV20 dc20 pm20 an20 cd20 ct20), sl20⟩) (c20 : PySem.W.codeIn K cd20 "is_direction_in" = true) (k20 : PySem.W.keepIn K (.ref f20) = true)
    {f21 : Addr} {od21 an21 : Option Addr} {sl21 : Array (Option Value)} {oc21 kV21 dc21 pm21 cd21 ct21 : Value} (a21 : PySem.W.nsIn K mainGlobals "_law_bare" = some (some (.ref f21))) (l21 : K.lookup f21 = some ⟨oc21, od21, .func (PySem.W.fnOf "_law_bare" "_law_bare" (defArgs s__law_bare) (defBody s__law_bare) (defScope s__law_bare) .none kV21 dc21 pm21 an21 cd21 ct21), sl21⟩) (c21 : PySem.W.codeIn K cd21 "_law_bare" = true) (k21 : PySem.W.keepIn K (.ref f21) = true)
    {f22 : Addr} {od22 an22 : Option Addr} {sl22 : Array (Option Value)} {oc22 kV22 dc22 pm22 cd22 ct22 : Value} (a22 : PySem.W.nsIn K mainGlobals "is_web" = some (some (.ref f22))) (l22 : K.lookup f22 = some ⟨oc22, od22, .func (PySem.W.fnOf "is_web" "is_web" (defArgs s_is_web) (defBody s_is_web) (defScope s_is_web) .none kV22 dc22 pm22 an22 cd22 ct22), sl22⟩) (c22 : PySem.W.codeIn K cd22 "is_web" = true) (k22 : PySem.W.keepIn K (.ref f22) = true)
    {f23 : Addr} {od23 an23 : Option Addr} {sl23 : Array (Option Value)} {oc23 kV23 dc23 pm23 cd23 ct23 : Value} (a23 : PySem.W.nsIn K mainGlobals "need_web" = some (some (.ref f23))) (l23 : K.lookup f23 = some ⟨oc23, od23, .func (PySem.W.fnOf "need_web" "need_web" (defArgs s_need_web) (defBody s_need_web) (defScope s_need_web) .none kV23 dc23 pm23 an23 cd23 ct23), sl23⟩) (c23 : PySem.W.codeIn K cd23 "need_web" = true) (k23 : PySem.W.keepIn K (.ref f23) = true)
    {f24 : Addr} {od24 an24 : Option Addr} {sl24 : Array (Option Value)} {oc24 kV24 dc24 pm24 cd24 ct24 : Value} (a24 : PySem.W.nsIn K mainGlobals "need_hue_web" = some (some (.ref f24))) (l24 : K.lookup f24 = some ⟨oc24, od24, .func (PySem.W.fnOf "need_hue_web" "need_hue_web" (defArgs s_need_hue_web) (defBody s_need_hue_web) (defScope s_need_hue_web) .none kV24 dc24 pm24 an24 cd24 ct24), sl24⟩) (c24 : PySem.W.codeIn K cd24 "need_hue_web" = true) (k24 : PySem.W.keepIn K (.ref f24) = true)
    {f25 : Addr} {od25 an25 : Option Addr} {sl25 : Array (Option Value)} {oc25 kV25 dc25 pm25 cd25 ct25 : Value} (a25 : PySem.W.nsIn K mainGlobals "are_hues" = some (some (.ref f25))) (l25 : K.lookup f25 = some ⟨oc25, od25, .func (PySem.W.fnOf "are_hues" "are_hues" (defArgs s_are_hues) (defBody s_are_hues) (defScope s_are_hues) .none kV25 dc25 pm25 an25 cd25 ct25), sl25⟩) (c25 : PySem.W.codeIn K cd25 "are_hues" = true) (k25 : PySem.W.keepIn K (.ref f25) = true)
    {f26 : Addr} {od26 an26 : Option Addr} {sl26 : Array (Option Value)} {oc26 kV26 dc26 pm26 cd26 ct26 : Value} (a26 : PySem.W.nsIn K mainGlobals "is_direction" = some (some (.ref f26))) (l26 : K.lookup f26 = some ⟨oc26, od26, .func (PySem.W.fnOf "is_direction" "is_direction" (defArgs s_is_direction) (defBody s_is_direction) (defScope s_is_direction) .none kV26 dc26 pm26 an26 cd26 ct26), sl26⟩) (c26 : PySem.W.codeIn K cd26 "is_direction" = true) (k26 : PySem.W.keepIn K (.ref f26) = true)
    {f27 : Addr} {od27 an27 : Option Addr} {sl27 : Array (Option Value)} {oc27 kV27 dc27 pm27 cd27 ct27 : Value} (a27 : PySem.W.nsIn K mainGlobals "need_direction" = some (some (.ref f27))) (l27 : K.lookup f27 = some ⟨oc27, od27, .func (PySem.W.fnOf "need_direction" "need_direction" (defArgs s_need_direction) (defBody s_need_direction) (defScope s_need_direction) .none kV27 dc27 pm27 an27 cd27 ct27), sl27⟩) (c27 : PySem.W.codeIn K cd27 "need_direction" = true) (k27 : PySem.W.keepIn K (.ref f27) = true)
    {f28 : Addr} {od28 an28 : Option Addr} {sl28 : Array (Option Value)} {oc28 kV28 dc28 pm28 cd28 ct28 : Value} (a28 : PySem.W.nsIn K mainGlobals "direction_by" = some (some (.ref f28))) (l28 : K.lookup f28 = some ⟨oc28, od28, .func (PySem.W.fnOf "direction_by" "direction_by" (defArgs s_direction_by) (defBody s_direction_by) (defScope s_direction_by) .none kV28 dc28 pm28 an28 cd28 ct28), sl28⟩) (c28 : PySem.W.codeIn K cd28 "direction_by" = true) (k28 : PySem.W.keepIn K (.ref f28) = true)
    {f29 : Addr} {od29 an29 : Option Addr} {sl29 : Array (Option Value)} {oc29 kV29 dc29 pm29 cd29 ct29 : Value} (a29 : PySem.W.nsIn K mainGlobals "is_way" = some (some (.ref f29))) (l29 : K.lookup f29 = some ⟨oc29, od29, .func (PySem.W.fnOf "is_way" "is_way" (defArgs s_is_way) (defBody s_is_way) (defScope s_is_way) .none kV29 dc29 pm29 an29 cd29 ct29), sl29⟩) (c29 : PySem.W.codeIn K cd29 "is_way" = true) (k29 : PySem.W.keepIn K (.ref f29) = true)
    {f30 cc30 PP30 : Addr} {od30 an30 : Option Addr} {sl30 : Array (Option Value)} {oc30 kV30 dc30 pm30  ct30 : Value} (a30 : PySem.W.nsIn K mainGlobals "_law_refused_right" = some (some (.ref f30))) (l30 : K.lookup f30 = some ⟨oc30, od30, .func (PySem.W.fnOf "_law_refused_right" "_law_refused_right" (defArgs s__law_refused_right) (defBody s__law_refused_right) (defScope s__law_refused_right) .none kV30 dc30 pm30 an30 (.ref cc30) ct30), sl30⟩) (c30 : PySem.W.codeIn K (.ref cc30) "_law_refused_right" = true) (k30 : PySem.W.keepIn K (.ref f30) = true)
    {f31 cc31 PP31 : Addr} {od31 an31 : Option Addr} {sl31 : Array (Option Value)} {oc31 kV31 dc31 pm31  ct31 : Value} (a31 : PySem.W.nsIn K mainGlobals "law" = some (some (.ref f31))) (l31 : K.lookup f31 = some ⟨oc31, od31, .func (PySem.W.fnOf "law" "law" (defArgs s_law) (defBody s_law) (defScope s_law) .none kV31 dc31 pm31 an31 (.ref cc31) ct31), sl31⟩) (c31 : PySem.W.codeIn K (.ref cc31) "law" = true) (k31 : PySem.W.keepIn K (.ref f31) = true)
    {f32 : Addr} {od32 an32 : Option Addr} {sl32 : Array (Option Value)} {oc32 kV32 dc32 pm32 cd32 ct32 : Value} (a32 : PySem.W.nsIn K mainGlobals "_law_met" = some (some (.ref f32))) (l32 : K.lookup f32 = some ⟨oc32, od32, .func (PySem.W.fnOf "_law_met" "_law_met" (defArgs s__law_met) (defBody s__law_met) (defScope s__law_met) .none kV32 dc32 pm32 an32 cd32 ct32), sl32⟩) (c32 : PySem.W.codeIn K cd32 "_law_met" = true) (k32 : PySem.W.keepIn K (.ref f32) = true)
    {te30 : Value} {td30 : Option Addr} {us30 : Array Value} {tl30 : Array (Option Value)} (u30 : K.lookup cc30 = some ⟨te30, td30, .fields us30, tl30⟩) (v30 : us30[11]? = some (.ref PP30)) (n30 : K.lookup PP30 = none) (h30 : PySem.W.codeHdIn K cc30 PP30 = true) (r30 : ((recsOf q).any fun e => e.name == "_law_refused_right") = true)
    {te31 : Value} {td31 : Option Addr} {us31 : Array Value} {tl31 : Array (Option Value)} (u31 : K.lookup cc31 = some ⟨te31, td31, .fields us31, tl31⟩) (v31 : us31[11]? = some (.ref PP31)) (n31 : K.lookup PP31 = none) (h31 : PySem.W.codeHdIn K cc31 PP31 = true) (r31 : ((recsOf q).any fun e => e.name == "law") = true) (w30_31 : PP30 ≠ PP31)
    {CBadWeb IBadWeb : Addr} {ocBadWeb kVBadWeb dcBadWeb pmBadWeb cdBadWeb ctBadWeb : Value} {odBadWeb anBadWeb : Option Addr} {slBadWeb : Array (Option Value)} (xaBadWeb : PySem.W.nsIn K mainGlobals "BadWeb" = some (some (.ref CBadWeb))) (xlBadWeb : oexB K CBadWeb = true) (xsBadWeb : PySem.W.findIn K (.ref CBadWeb) "__setattr__" = some (some (.builtin "object.__setattr__"))) (xeBadWeb : PySem.W.subIn K (.ref CBadWeb) (.type "BaseException") = some true) (xtBadWeb : PySem.W.typeIn K (.ref CBadWeb) = some (.type "type")) (xkBadWeb : PySem.W.keepIn K (.ref CBadWeb) = true) (xfBadWeb : xfB K CBadWeb = true) (xnBadWeb : ((["web"] : List Str).all fun f => decide (PySem.W.findIn K (.ref CBadWeb) f = some none)) = true) (xiBadWeb : PySem.W.findIn K (.ref CBadWeb) "__init__" = some (some (.ref IBadWeb))) (xyBadWeb : PySem.W.typeIn K (.ref IBadWeb) = some (.type "function")) (xoBadWeb : K.lookup IBadWeb = some ⟨ocBadWeb, odBadWeb, .func (PySem.W.fnOf "__init__" "BadWeb.__init__" (defArgs t_BadWeb) (defBody t_BadWeb) (defScope t_BadWeb) .none kVBadWeb dcBadWeb pmBadWeb anBadWeb cdBadWeb ctBadWeb), slBadWeb⟩) (xcBadWeb : PySem.W.codeIn K cdBadWeb "BadWeb.__init__" = true) (xpBadWeb : PySem.W.keepIn K (.ref IBadWeb) = true)
    {CBadRow IBadRow : Addr} {ocBadRow kVBadRow dcBadRow pmBadRow cdBadRow ctBadRow : Value} {odBadRow anBadRow : Option Addr} {slBadRow : Array (Option Value)} (xaBadRow : PySem.W.nsIn K mainGlobals "BadRow" = some (some (.ref CBadRow))) (xlBadRow : oexB K CBadRow = true) (xsBadRow : PySem.W.findIn K (.ref CBadRow) "__setattr__" = some (some (.builtin "object.__setattr__"))) (xeBadRow : PySem.W.subIn K (.ref CBadRow) (.type "BaseException") = some true) (xtBadRow : PySem.W.typeIn K (.ref CBadRow) = some (.type "type")) (xkBadRow : PySem.W.keepIn K (.ref CBadRow) = true) (xfBadRow : xfB K CBadRow = true) (xnBadRow : ((["row"] : List Str).all fun f => decide (PySem.W.findIn K (.ref CBadRow) f = some none)) = true) (xiBadRow : PySem.W.findIn K (.ref CBadRow) "__init__" = some (some (.ref IBadRow))) (xyBadRow : PySem.W.typeIn K (.ref IBadRow) = some (.type "function")) (xoBadRow : K.lookup IBadRow = some ⟨ocBadRow, odBadRow, .func (PySem.W.fnOf "__init__" "BadRow.__init__" (defArgs t_BadRow) (defBody t_BadRow) (defScope t_BadRow) .none kVBadRow dcBadRow pmBadRow anBadRow cdBadRow ctBadRow), slBadRow⟩) (xcBadRow : PySem.W.codeIn K cdBadRow "BadRow.__init__" = true) (xpBadRow : PySem.W.keepIn K (.ref IBadRow) = true)
    {CNotKept INotKept : Addr} {ocNotKept kVNotKept dcNotKept pmNotKept cdNotKept ctNotKept : Value} {odNotKept anNotKept : Option Addr} {slNotKept : Array (Option Value)} (xaNotKept : PySem.W.nsIn K mainGlobals "NotKept" = some (some (.ref CNotKept))) (xlNotKept : oexB K CNotKept = true) (xsNotKept : PySem.W.findIn K (.ref CNotKept) "__setattr__" = some (some (.builtin "object.__setattr__"))) (xeNotKept : PySem.W.subIn K (.ref CNotKept) (.type "BaseException") = some true) (xtNotKept : PySem.W.typeIn K (.ref CNotKept) = some (.type "type")) (xkNotKept : PySem.W.keepIn K (.ref CNotKept) = true) (xfNotKept : xfB K CNotKept = true) (xnNotKept : ((["promise", "witness"] : List Str).all fun f => decide (PySem.W.findIn K (.ref CNotKept) f = some none)) = true) (xiNotKept : PySem.W.findIn K (.ref CNotKept) "__init__" = some (some (.ref INotKept))) (xyNotKept : PySem.W.typeIn K (.ref INotKept) = some (.type "function")) (xoNotKept : K.lookup INotKept = some ⟨ocNotKept, odNotKept, .func (PySem.W.fnOf "__init__" "NotKept.__init__" (defArgs t_NotKept) (defBody t_NotKept) (defScope t_NotKept) .none kVNotKept dcNotKept pmNotKept anNotKept cdNotKept ctNotKept), slNotKept⟩) (xcNotKept : PySem.W.codeIn K cdNotKept "NotKept.__init__" = true) (xpNotKept : PySem.W.keepIn K (.ref INotKept) = true) (xmBadWeb_BadWeb : PySem.W.exmOne K (.ref CBadWeb) (.ref CBadWeb) = some true) (xmBadWeb_BadRow : PySem.W.exmOne K (.ref CBadWeb) (.ref CBadRow) = some false) (xmBadWeb_NotKept : PySem.W.exmOne K (.ref CBadWeb) (.ref CNotKept) = some false) (xmBadRow_BadWeb : PySem.W.exmOne K (.ref CBadRow) (.ref CBadWeb) = some false) (xmBadRow_BadRow : PySem.W.exmOne K (.ref CBadRow) (.ref CBadRow) = some true) (xmBadRow_NotKept : PySem.W.exmOne K (.ref CBadRow) (.ref CNotKept) = some false) (xmNotKept_BadWeb : PySem.W.exmOne K (.ref CNotKept) (.ref CBadWeb) = some false) (xmNotKept_BadRow : PySem.W.exmOne K (.ref CNotKept) (.ref CBadRow) = some false) (xmNotKept_NotKept : PySem.W.exmOne K (.ref CNotKept) (.ref CNotKept) = some true) (z_len : PySem.W.nsIn K mainGlobals "len" = some none) (z_abs : PySem.W.nsIn K mainGlobals "abs" = some none) (z_int : PySem.W.nsIn K mainGlobals "int" = some none) (z_bool : PySem.W.nsIn K mainGlobals "bool" = some none) (z_str : PySem.W.nsIn K mainGlobals "str" = some none) (z_min : PySem.W.nsIn K mainGlobals "min" = some none) (z_max : PySem.W.nsIn K mainGlobals "max" = some none) (z_sum : PySem.W.nsIn K mainGlobals "sum" = some none) (z_all : PySem.W.nsIn K mainGlobals "all" = some none) (z_any : PySem.W.nsIn K mainGlobals "any" = some none) (z_tuple : PySem.W.nsIn K mainGlobals "tuple" = some none) (z_list : PySem.W.nsIn K mainGlobals "list" = some none) (z_dict : PySem.W.nsIn K mainGlobals "dict" = some none) (z_sorted : PySem.W.nsIn K mainGlobals "sorted" = some none) (z_repr : PySem.W.nsIn K mainGlobals "repr" = some none) (z_isinstance : PySem.W.nsIn K mainGlobals "isinstance" = some none) (z_range : PySem.W.nsIn K mainGlobals "range" = some none) (z_enumerate : PySem.W.nsIn K mainGlobals "enumerate" = some none) (z_zip : PySem.W.nsIn K mainGlobals "zip" = some none) :
    ∃ (g : Gm) (fd : FuncData) (cs : List (Addr × Addr)), TabsAt K mg h cs ∧ (∀ p ∈ g.T, ∃ c, (c, p.1) ∈ cs) ∧ (∀ (s : Shared) (v : Value), BindsTo s fd ⟨[v], []⟩ [("script", v)]) ∧
      ∀ base : Heap, K.In base → base.Ns mainGlobals mg → (∀ p ∈ cs, LamX.TabB base mg p.1 p.2) → FnG l.prog w K mg base 14 fa fd ["script"] (spD K g 1 F_law) := by
  have e := hfa.symm.trans (PySem.W.mg_of X G a31)
  cases e
  have T : Bt mg := ⟨PySem.W.mg_none_of X G z_len, PySem.W.mg_none_of X G z_abs, PySem.W.mg_none_of X G z_int, PySem.W.mg_none_of X G z_bool, PySem.W.mg_none_of X G z_str, PySem.W.mg_none_of X G z_min, PySem.W.mg_none_of X G z_max, PySem.W.mg_none_of X G z_sum, PySem.W.mg_none_of X G z_all, PySem.W.mg_none_of X G z_any, PySem.W.mg_none_of X G z_tuple, PySem.W.mg_none_of X G z_list, PySem.W.mg_none_of X G z_dict, PySem.W.mg_none_of X G z_sorted, PySem.W.mg_none_of X G z_repr, PySem.W.mg_none_of X G z_isinstance, PySem.W.mg_none_of X G z_range, PySem.W.mg_none_of X G z_enumerate, PySem.W.mg_none_of X G z_zip⟩
  have t30 := own "_law_refused_right" _ r30 (PySem.W.mg_of X G a30) cc30 PP30 _ _ _ _ _ _ l30 rfl rfl u30 v30
  have t31 := own "law" _ r31 (PySem.W.mg_of X G a31) cc31 PP31 _ _ _ _ _ _ l31 rfl rfl u31 v31
  have ta : TabsAt K mg h [(cc30, PP30), (cc31, PP31)] := by
    refine ⟨?_, ?_, ?_⟩
    · intro p hp
      simp only [List.mem_cons, List.not_mem_nil, or_false] at hp
      rcases hp with rfl | rfl
      · exact t30
      · exact t31
    · intro p hp
      simp only [List.mem_cons, List.not_mem_nil, or_false] at hp
      rcases hp with rfl | rfl
      · exact n30
      · exact n31
    · intro p hp
      simp only [List.mem_cons, List.not_mem_nil, or_false] at hp
      rcases hp with rfl | rfl
      · exact PySem.W.codeHd_of_K X h30
      · exact PySem.W.codeHd_of_K X h31
  refine ⟨(gmT f0 f1 f2 f3 f4 f5 f6 f7 f8 f9 f10 f11 f12 f13 f14 f15 f16 f17 f18 f19 f20 f21 f22 f23 f24 f25 f26 f27 f28 f29 f30 fa f32 CBadWeb CBadRow CNotKept PP30 PP31), PySem.W.fnOf "law" "law" (defArgs s_law) (defBody s_law) (defScope s_law) .none kV31 dc31 pm31 an31 (.ref cc31) ct31, [(cc30, PP30), (cc31, PP31)], ta, ?_, fun s v => .of_eq rfl, fun base _ _ hTB => ?_⟩
  · intro p hp
    simp only [gmT, List.mem_cons, List.not_mem_nil, or_false] at hp
    rcases hp with rfl | rfl
    · exact ⟨cc30, by simp⟩
    · exact ⟨cc31, by simp⟩
  have XBadWeb : Xcl l.prog w K mg base (gmT f0 f1 f2 f3 f4 f5 f6 f7 f8 f9 f10 f11 f12 f13 f14 f15 f16 f17 f18 f19 f20 f21 f22 f23 f24 f25 f26 f27 f28 f29 f30 fa f32 CBadWeb CBadRow CNotKept PP30 PP31) 2 "BadWeb" ["web"] := xcl_of rfl (PySem.W.mg_of X G xaBadWeb) ⟨oexB_of xlBadWeb, xsBadWeb, xeBadWeb, xtBadWeb, xkBadWeb⟩ xfBadWeb xnBadWeb xiBadWeb xyBadWeb (in_BadWeb (fun_mk (st := t_BadWeb) xoBadWeb xcBadWeb xpBadWeb)) ((fun_mk (st := t_BadWeb) xoBadWeb xcBadWeb xpBadWeb).binds (ps := ["self", "web"]) fun _ _ _ _ _ _ us hl => match us, hl with | [_, _], _ => rfl)
  have XBadRow : Xcl l.prog w K mg base (gmT f0 f1 f2 f3 f4 f5 f6 f7 f8 f9 f10 f11 f12 f13 f14 f15 f16 f17 f18 f19 f20 f21 f22 f23 f24 f25 f26 f27 f28 f29 f30 fa f32 CBadWeb CBadRow CNotKept PP30 PP31) 3 "BadRow" ["row"] := xcl_of rfl (PySem.W.mg_of X G xaBadRow) ⟨oexB_of xlBadRow, xsBadRow, xeBadRow, xtBadRow, xkBadRow⟩ xfBadRow xnBadRow xiBadRow xyBadRow (in_BadRow (fun_mk (st := t_BadRow) xoBadRow xcBadRow xpBadRow)) ((fun_mk (st := t_BadRow) xoBadRow xcBadRow xpBadRow).binds (ps := ["self", "row"]) fun _ _ _ _ _ _ us hl => match us, hl with | [_, _], _ => rfl)
  have XNotKept : Xcl l.prog w K mg base (gmT f0 f1 f2 f3 f4 f5 f6 f7 f8 f9 f10 f11 f12 f13 f14 f15 f16 f17 f18 f19 f20 f21 f22 f23 f24 f25 f26 f27 f28 f29 f30 fa f32 CBadWeb CBadRow CNotKept PP30 PP31) 4 "NotKept" ["promise", "witness"] := xcl_of rfl (PySem.W.mg_of X G xaNotKept) ⟨oexB_of xlNotKept, xsNotKept, xeNotKept, xtNotKept, xkNotKept⟩ xfNotKept xnNotKept xiNotKept xyNotKept (in_NotKept (fun_mk (st := t_NotKept) xoNotKept xcNotKept xpNotKept)) ((fun_mk (st := t_NotKept) xoNotKept xcNotKept xpNotKept).binds (ps := ["self", "promise", "witness"]) fun _ _ _ _ _ _ us hl => match us, hl with | [_, _, _], _ => rfl)
  have so : SubOk K (gmT f0 f1 f2 f3 f4 f5 f6 f7 f8 f9 f10 f11 f12 f13 f14 f15 f16 f17 f18 f19 f20 f21 f22 f23 f24 f25 f26 f27 f28 f29 f30 fa f32 CBadWeb CBadRow CNotKept PP30 PP31) sub0 := by
    intro c c2 C C2 h1 h2
    simp only [gmT] at h1 h2
    split at h1 <;> split at h2 <;> first | (cases h1; done) | (cases h2; done) | (cases h1; cases h2; first | exact xmBadWeb_BadWeb | exact xmBadWeb_BadRow | exact xmBadWeb_NotKept | exact xmBadRow_BadWeb | exact xmBadRow_BadRow | exact xmBadRow_NotKept | exact xmNotKept_BadWeb | exact xmNotKept_BadRow | exact xmNotKept_NotKept)
  have F0 := fun_mk (st := s_is_whole) l0 c0 k0
  have F1 := fun_mk (st := s_hued_direction) l1 c1 k1
  have F2 := fun_mk (st := s__law_pen) l2 c2 k2
  have F3 := fun_mk (st := s__law_draw) l3 c3 k3
  have F4 := fun_mk (st := s__law_web) l4 c4 k4
  have F5 := fun_mk (st := s__law_no_webs) l5 c5 k5
  have F6 := fun_mk (st := s__law_are_hues) l6 c6 k6
  have F7 := fun_mk (st := s__law_is_direction) l7 c7 k7
  have F8 := fun_mk (st := s__law_is_way) l8 c8 k8
  have F9 := fun_mk (st := s_is_count) l9 c9 k9
  have F10 := fun_mk (st := s__law_pick) l10 c10 k10
  have F11 := fun_mk (st := s__law_shuffled) l11 c11 k11
  have F12 := fun_mk (st := s__law_direction) l12 c12 k12
  have F13 := fun_mk (st := s__law_bent) l13 c13 k13
  have F14 := fun_mk (st := s_is_place) l14 c14 k14
  have F15 := fun_mk (st := s_are_hues_in) l15 c15 k15
  have F16 := fun_mk (st := s_is_item_of) l16 c16 k16
  have F17 := fun_mk (st := s__law_some_web) l17 c17 k17
  have F18 := fun_mk (st := s_is_tie) l18 c18 k18
  have F19 := fun_mk (st := s_is_course_in) l19 c19 k19
  have F20 := fun_mk (st := s_is_direction_in) l20 c20 k20
  have F21 := fun_mk (st := s__law_bare) l21 c21 k21
  have F22 := fun_mk (st := s_is_web) l22 c22 k22
  have F23 := fun_mk (st := s_need_web) l23 c23 k23
  have F24 := fun_mk (st := s_need_hue_web) l24 c24 k24
  have F25 := fun_mk (st := s_are_hues) l25 c25 k25
  have F26 := fun_mk (st := s_is_direction) l26 c26 k26
  have F27 := fun_mk (st := s_need_direction) l27 c27 k27
  have F28 := fun_mk (st := s_direction_by) l28 c28 k28
  have F29 := fun_mk (st := s_is_way) l29 c29 k29
  have F30 := fun_mk (st := s__law_refused_right) l30 c30 k30
  have F31 := fun_mk (st := s_law) l31 c31 k31
  have F32 := fun_mk (st := s__law_met) l32 c32 k32
  have b32 := F32.binds (ps := ["call"]) fun _ _ _ _ _ _ us hl => match us, hl with | [_], _ => rfl
  have M__law_met := mt__law_met (P := l.prog) (w := w) (base := base) (g := (gmT f0 f1 f2 f3 f4 f5 f6 f7 f8 f9 f10 f11 f12 f13 f14 f15 f16 f17 f18 f19 f20 f21 f22 f23 f24 f25 f26 f27 f28 f29 f30 fa f32 CBadWeb CBadRow CNotKept PP30 PP31)) XBadWeb XBadRow XNotKept F32 (PySem.W.mg_of X G a32) b32
  have b0 := F0.binds (ps := ["value"]) fun _ _ _ _ _ _ us hl => match us, hl with | [_], _ => rfl
  have C0 := cl_is_whole (P := l.prog) (w := w) (base := base) (g := (gmT f0 f1 f2 f3 f4 f5 f6 f7 f8 f9 f10 f11 f12 f13 f14 f15 f16 f17 f18 f19 f20 f21 f22 f23 f24 f25 f26 f27 f28 f29 f30 fa f32 CBadWeb CBadRow CNotKept PP30 PP31)) T  F0 rfl (PySem.W.mg_of X G a0) b0
  have b1 := F1.binds (ps := ["web", "hues"]) fun _ _ _ _ _ _ us hl => match us, hl with | [_, _], _ => rfl
  have C1 := cl_hued_direction (P := l.prog) (w := w) (base := base) (g := (gmT f0 f1 f2 f3 f4 f5 f6 f7 f8 f9 f10 f11 f12 f13 f14 f15 f16 f17 f18 f19 f20 f21 f22 f23 f24 f25 f26 f27 f28 f29 f30 fa f32 CBadWeb CBadRow CNotKept PP30 PP31)) T  F1 rfl (PySem.W.mg_of X G a1) b1
  have b2 := F2.binds (ps := ["script"]) fun _ _ _ _ _ _ us hl => match us, hl with | [_], _ => rfl
  have C2 := cl__law_pen (P := l.prog) (w := w) (base := base) (g := (gmT f0 f1 f2 f3 f4 f5 f6 f7 f8 f9 f10 f11 f12 f13 f14 f15 f16 f17 f18 f19 f20 f21 f22 f23 f24 f25 f26 f27 f28 f29 f30 fa f32 CBadWeb CBadRow CNotKept PP30 PP31)) T  F2 rfl (PySem.W.mg_of X G a2) b2
  have b3 := F3.binds (ps := ["pen", "many"]) fun _ _ _ _ _ _ us hl => match us, hl with | [_, _], _ => rfl
  have C3 := cl__law_draw (P := l.prog) (w := w) (base := base) (g := (gmT f0 f1 f2 f3 f4 f5 f6 f7 f8 f9 f10 f11 f12 f13 f14 f15 f16 f17 f18 f19 f20 f21 f22 f23 f24 f25 f26 f27 f28 f29 f30 fa f32 CBadWeb CBadRow CNotKept PP30 PP31)) T  F3 rfl (PySem.W.mg_of X G a3) b3
  have b4 := F4.binds (ps := ["n", "ties"]) fun _ _ _ _ _ _ us hl => match us, hl with | [_, _], _ => rfl
  have C4 := cl__law_web (P := l.prog) (w := w) (base := base) (g := (gmT f0 f1 f2 f3 f4 f5 f6 f7 f8 f9 f10 f11 f12 f13 f14 f15 f16 f17 f18 f19 f20 f21 f22 f23 f24 f25 f26 f27 f28 f29 f30 fa f32 CBadWeb CBadRow CNotKept PP30 PP31)) T  F4 rfl (PySem.W.mg_of X G a4) b4
  have b5 := F5.binds (ps := ["web"]) fun _ _ _ _ _ _ us hl => match us, hl with | [_], _ => rfl
  have C5 := cl__law_no_webs (P := l.prog) (w := w) (base := base) (g := (gmT f0 f1 f2 f3 f4 f5 f6 f7 f8 f9 f10 f11 f12 f13 f14 f15 f16 f17 f18 f19 f20 f21 f22 f23 f24 f25 f26 f27 f28 f29 f30 fa f32 CBadWeb CBadRow CNotKept PP30 PP31)) T  F5 rfl (PySem.W.mg_of X G a5) b5
  have b6 := F6.binds (ps := ["web", "value"]) fun _ _ _ _ _ _ us hl => match us, hl with | [_, _], _ => rfl
  have C6 := cl__law_are_hues (P := l.prog) (w := w) (base := base) (g := (gmT f0 f1 f2 f3 f4 f5 f6 f7 f8 f9 f10 f11 f12 f13 f14 f15 f16 f17 f18 f19 f20 f21 f22 f23 f24 f25 f26 f27 f28 f29 f30 fa f32 CBadWeb CBadRow CNotKept PP30 PP31)) T  F6 rfl (PySem.W.mg_of X G a6) b6
  have b7 := F7.binds (ps := ["web", "value"]) fun _ _ _ _ _ _ us hl => match us, hl with | [_, _], _ => rfl
  have C7 := cl__law_is_direction (P := l.prog) (w := w) (base := base) (g := (gmT f0 f1 f2 f3 f4 f5 f6 f7 f8 f9 f10 f11 f12 f13 f14 f15 f16 f17 f18 f19 f20 f21 f22 f23 f24 f25 f26 f27 f28 f29 f30 fa f32 CBadWeb CBadRow CNotKept PP30 PP31)) T  F7 rfl (PySem.W.mg_of X G a7) b7
  have b8 := F8.binds (ps := ["web", "direction", "value"]) fun _ _ _ _ _ _ us hl => match us, hl with | [_, _, _], _ => rfl
  have C8 := cl__law_is_way (P := l.prog) (w := w) (base := base) (g := (gmT f0 f1 f2 f3 f4 f5 f6 f7 f8 f9 f10 f11 f12 f13 f14 f15 f16 f17 f18 f19 f20 f21 f22 f23 f24 f25 f26 f27 f28 f29 f30 fa f32 CBadWeb CBadRow CNotKept PP30 PP31)) T  F8 rfl (PySem.W.mg_of X G a8) b8
  have b9 := F9.binds (ps := ["value"]) fun _ _ _ _ _ _ us hl => match us, hl with | [_], _ => rfl
  have C9 := cl_is_count (P := l.prog) (w := w) (base := base) (g := (gmT f0 f1 f2 f3 f4 f5 f6 f7 f8 f9 f10 f11 f12 f13 f14 f15 f16 f17 f18 f19 f20 f21 f22 f23 f24 f25 f26 f27 f28 f29 f30 fa f32 CBadWeb CBadRow CNotKept PP30 PP31)) T C0 F9 rfl (PySem.W.mg_of X G a9) b9
  have b10 := F10.binds (ps := ["pen", "items"]) fun _ _ _ _ _ _ us hl => match us, hl with | [_, _], _ => rfl
  have C10 := cl__law_pick (P := l.prog) (w := w) (base := base) (g := (gmT f0 f1 f2 f3 f4 f5 f6 f7 f8 f9 f10 f11 f12 f13 f14 f15 f16 f17 f18 f19 f20 f21 f22 f23 f24 f25 f26 f27 f28 f29 f30 fa f32 CBadWeb CBadRow CNotKept PP30 PP31)) T C3 F10 rfl (PySem.W.mg_of X G a10) b10
  have b11 := F11.binds (ps := ["pen", "items"]) fun _ _ _ _ _ _ us hl => match us, hl with | [_, _], _ => rfl
  have C11 := cl__law_shuffled (P := l.prog) (w := w) (base := base) (g := (gmT f0 f1 f2 f3 f4 f5 f6 f7 f8 f9 f10 f11 f12 f13 f14 f15 f16 f17 f18 f19 f20 f21 f22 f23 f24 f25 f26 f27 f28 f29 f30 fa f32 CBadWeb CBadRow CNotKept PP30 PP31)) T C3 F11 rfl (PySem.W.mg_of X G a11) b11
  have b12 := F12.binds (ps := ["pen", "web"]) fun _ _ _ _ _ _ us hl => match us, hl with | [_, _], _ => rfl
  have C12 := cl__law_direction (P := l.prog) (w := w) (base := base) (g := (gmT f0 f1 f2 f3 f4 f5 f6 f7 f8 f9 f10 f11 f12 f13 f14 f15 f16 f17 f18 f19 f20 f21 f22 f23 f24 f25 f26 f27 f28 f29 f30 fa f32 CBadWeb CBadRow CNotKept PP30 PP31)) T C3 F12 rfl (PySem.W.mg_of X G a12) b12
  have b13 := F13.binds (ps := ["pen", "value"]) fun _ _ _ _ _ _ us hl => match us, hl with | [_, _], _ => rfl
  have C13 := cl__law_bent (P := l.prog) (w := w) (base := base) (g := (gmT f0 f1 f2 f3 f4 f5 f6 f7 f8 f9 f10 f11 f12 f13 f14 f15 f16 f17 f18 f19 f20 f21 f22 f23 f24 f25 f26 f27 f28 f29 f30 fa f32 CBadWeb CBadRow CNotKept PP30 PP31)) T C3 F13 rfl (PySem.W.mg_of X G a13) b13
  have b14 := F14.binds (ps := ["n", "value"]) fun _ _ _ _ _ _ us hl => match us, hl with | [_, _], _ => rfl
  have C14 := cl_is_place (P := l.prog) (w := w) (base := base) (g := (gmT f0 f1 f2 f3 f4 f5 f6 f7 f8 f9 f10 f11 f12 f13 f14 f15 f16 f17 f18 f19 f20 f21 f22 f23 f24 f25 f26 f27 f28 f29 f30 fa f32 CBadWeb CBadRow CNotKept PP30 PP31)) T C9 F14 rfl (PySem.W.mg_of X G a14) b14
  have b15 := F15.binds (ps := ["web", "value"]) fun _ _ _ _ _ _ us hl => match us, hl with | [_, _], _ => rfl
  have C15 := cl_are_hues_in (P := l.prog) (w := w) (base := base) (g := (gmT f0 f1 f2 f3 f4 f5 f6 f7 f8 f9 f10 f11 f12 f13 f14 f15 f16 f17 f18 f19 f20 f21 f22 f23 f24 f25 f26 f27 f28 f29 f30 fa f32 CBadWeb CBadRow CNotKept PP30 PP31)) T C9 F15 rfl (PySem.W.mg_of X G a15) b15
  have b16 := F16.binds (ps := ["tie", "value"]) fun _ _ _ _ _ _ us hl => match us, hl with | [_, _], _ => rfl
  have C16 := cl_is_item_of (P := l.prog) (w := w) (base := base) (g := (gmT f0 f1 f2 f3 f4 f5 f6 f7 f8 f9 f10 f11 f12 f13 f14 f15 f16 f17 f18 f19 f20 f21 f22 f23 f24 f25 f26 f27 f28 f29 f30 fa f32 CBadWeb CBadRow CNotKept PP30 PP31)) T C9 F16 rfl (PySem.W.mg_of X G a16) b16
  have b17 := F17.binds (ps := ["pen", "n", "loops"]) fun _ _ _ _ _ _ us hl => match us, hl with | [_, _, _], _ => rfl
  have C17 := cl__law_some_web (P := l.prog) (w := w) (base := base) (g := (gmT f0 f1 f2 f3 f4 f5 f6 f7 f8 f9 f10 f11 f12 f13 f14 f15 f16 f17 f18 f19 f20 f21 f22 f23 f24 f25 f26 f27 f28 f29 f30 fa f32 CBadWeb CBadRow CNotKept PP30 PP31)) T C3 C11 C10 C4 F17 rfl (PySem.W.mg_of X G a17) b17
  have b18 := F18.binds (ps := ["n", "value"]) fun _ _ _ _ _ _ us hl => match us, hl with | [_, _], _ => rfl
  have C18 := cl_is_tie (P := l.prog) (w := w) (base := base) (g := (gmT f0 f1 f2 f3 f4 f5 f6 f7 f8 f9 f10 f11 f12 f13 f14 f15 f16 f17 f18 f19 f20 f21 f22 f23 f24 f25 f26 f27 f28 f29 f30 fa f32 CBadWeb CBadRow CNotKept PP30 PP31)) T C14 F18 rfl (PySem.W.mg_of X G a18) b18
  have b19 := F19.binds (ps := ["web", "value"]) fun _ _ _ _ _ _ us hl => match us, hl with | [_, _], _ => rfl
  have C19 := cl_is_course_in (P := l.prog) (w := w) (base := base) (g := (gmT f0 f1 f2 f3 f4 f5 f6 f7 f8 f9 f10 f11 f12 f13 f14 f15 f16 f17 f18 f19 f20 f21 f22 f23 f24 f25 f26 f27 f28 f29 f30 fa f32 CBadWeb CBadRow CNotKept PP30 PP31)) T C14 F19 rfl (PySem.W.mg_of X G a19) b19
  have b20 := F20.binds (ps := ["web", "value"]) fun _ _ _ _ _ _ us hl => match us, hl with | [_, _], _ => rfl
  have C20 := cl_is_direction_in (P := l.prog) (w := w) (base := base) (g := (gmT f0 f1 f2 f3 f4 f5 f6 f7 f8 f9 f10 f11 f12 f13 f14 f15 f16 f17 f18 f19 f20 f21 f22 f23 f24 f25 f26 f27 f28 f29 f30 fa f32 CBadWeb CBadRow CNotKept PP30 PP31)) T C16 F20 rfl (PySem.W.mg_of X G a20) b20
  have b21 := F21.binds (ps := ["pen", "n"]) fun _ _ _ _ _ _ us hl => match us, hl with | [_, _], _ => rfl
  have C21 := cl__law_bare (P := l.prog) (w := w) (base := base) (g := (gmT f0 f1 f2 f3 f4 f5 f6 f7 f8 f9 f10 f11 f12 f13 f14 f15 f16 f17 f18 f19 f20 f21 f22 f23 f24 f25 f26 f27 f28 f29 f30 fa f32 CBadWeb CBadRow CNotKept PP30 PP31)) T C17 F21 rfl (PySem.W.mg_of X G a21) b21
  have b22 := F22.binds (ps := ["value"]) fun _ _ _ _ _ _ us hl => match us, hl with | [_], _ => rfl
  have C22 := cl_is_web (P := l.prog) (w := w) (base := base) (g := (gmT f0 f1 f2 f3 f4 f5 f6 f7 f8 f9 f10 f11 f12 f13 f14 f15 f16 f17 f18 f19 f20 f21 f22 f23 f24 f25 f26 f27 f28 f29 f30 fa f32 CBadWeb CBadRow CNotKept PP30 PP31)) T C9 C18 F22 rfl (PySem.W.mg_of X G a22) b22
  have b23 := F23.binds (ps := ["value"]) fun _ _ _ _ _ _ us hl => match us, hl with | [_], _ => rfl
  have C23 := cl_need_web (P := l.prog) (w := w) (base := base) (g := (gmT f0 f1 f2 f3 f4 f5 f6 f7 f8 f9 f10 f11 f12 f13 f14 f15 f16 f17 f18 f19 f20 f21 f22 f23 f24 f25 f26 f27 f28 f29 f30 fa f32 CBadWeb CBadRow CNotKept PP30 PP31)) T C22 XBadWeb F23 rfl (PySem.W.mg_of X G a23) b23
  have b24 := F24.binds (ps := ["web"]) fun _ _ _ _ _ _ us hl => match us, hl with | [_], _ => rfl
  have C24 := cl_need_hue_web (P := l.prog) (w := w) (base := base) (g := (gmT f0 f1 f2 f3 f4 f5 f6 f7 f8 f9 f10 f11 f12 f13 f14 f15 f16 f17 f18 f19 f20 f21 f22 f23 f24 f25 f26 f27 f28 f29 f30 fa f32 CBadWeb CBadRow CNotKept PP30 PP31)) T C23 XNotKept F24 rfl (PySem.W.mg_of X G a24) b24
  have b25 := F25.binds (ps := ["web", "value"]) fun _ _ _ _ _ _ us hl => match us, hl with | [_, _], _ => rfl
  have C25 := cl_are_hues (P := l.prog) (w := w) (base := base) (g := (gmT f0 f1 f2 f3 f4 f5 f6 f7 f8 f9 f10 f11 f12 f13 f14 f15 f16 f17 f18 f19 f20 f21 f22 f23 f24 f25 f26 f27 f28 f29 f30 fa f32 CBadWeb CBadRow CNotKept PP30 PP31)) T C24 C15 F25 rfl (PySem.W.mg_of X G a25) b25
  have LO0 := lk_0 (P := l.prog) (w := w) (base := base) (g := (gmT f0 f1 f2 f3 f4 f5 f6 f7 f8 f9 f10 f11 f12 f13 f14 f15 f16 f17 f18 f19 f20 f21 f22 f23 f24 f25 f26 f27 f28 f29 f30 fa f32 CBadWeb CBadRow CNotKept PP30 PP31)) T C25
  have b26 := F26.binds (ps := ["web", "value"]) fun _ _ _ _ _ _ us hl => match us, hl with | [_, _], _ => rfl
  have C26 := cl_is_direction (P := l.prog) (w := w) (base := base) (g := (gmT f0 f1 f2 f3 f4 f5 f6 f7 f8 f9 f10 f11 f12 f13 f14 f15 f16 f17 f18 f19 f20 f21 f22 f23 f24 f25 f26 f27 f28 f29 f30 fa f32 CBadWeb CBadRow CNotKept PP30 PP31)) T C24 C20 F26 rfl (PySem.W.mg_of X G a26) b26
  have LO1 := lk_1 (P := l.prog) (w := w) (base := base) (g := (gmT f0 f1 f2 f3 f4 f5 f6 f7 f8 f9 f10 f11 f12 f13 f14 f15 f16 f17 f18 f19 f20 f21 f22 f23 f24 f25 f26 f27 f28 f29 f30 fa f32 CBadWeb CBadRow CNotKept PP30 PP31)) T C26
  have b27 := F27.binds (ps := ["web", "direction"]) fun _ _ _ _ _ _ us hl => match us, hl with | [_, _], _ => rfl
  have C27 := cl_need_direction (P := l.prog) (w := w) (base := base) (g := (gmT f0 f1 f2 f3 f4 f5 f6 f7 f8 f9 f10 f11 f12 f13 f14 f15 f16 f17 f18 f19 f20 f21 f22 f23 f24 f25 f26 f27 f28 f29 f30 fa f32 CBadWeb CBadRow CNotKept PP30 PP31)) T C24 C20 XBadRow F27 rfl (PySem.W.mg_of X G a27) b27
  have b28 := F28.binds (ps := ["web", "hues"]) fun _ _ _ _ _ _ us hl => match us, hl with | [_, _], _ => rfl
  have C28 := cl_direction_by (P := l.prog) (w := w) (base := base) (g := (gmT f0 f1 f2 f3 f4 f5 f6 f7 f8 f9 f10 f11 f12 f13 f14 f15 f16 f17 f18 f19 f20 f21 f22 f23 f24 f25 f26 f27 f28 f29 f30 fa f32 CBadWeb CBadRow CNotKept PP30 PP31)) T C24 C15 C1 XBadRow F28 rfl (PySem.W.mg_of X G a28) b28
  have LO3 := lk_3 (P := l.prog) (w := w) (base := base) (g := (gmT f0 f1 f2 f3 f4 f5 f6 f7 f8 f9 f10 f11 f12 f13 f14 f15 f16 f17 f18 f19 f20 f21 f22 f23 f24 f25 f26 f27 f28 f29 f30 fa f32 CBadWeb CBadRow CNotKept PP30 PP31)) T C28
  have b29 := F29.binds (ps := ["web", "direction", "value"]) fun _ _ _ _ _ _ us hl => match us, hl with | [_, _, _], _ => rfl
  have C29 := cl_is_way (P := l.prog) (w := w) (base := base) (g := (gmT f0 f1 f2 f3 f4 f5 f6 f7 f8 f9 f10 f11 f12 f13 f14 f15 f16 f17 f18 f19 f20 f21 f22 f23 f24 f25 f26 f27 f28 f29 f30 fa f32 CBadWeb CBadRow CNotKept PP30 PP31)) T C27 C19 F29 rfl (PySem.W.mg_of X G a29) b29
  have LO2 := lk_2 (P := l.prog) (w := w) (base := base) (g := (gmT f0 f1 f2 f3 f4 f5 f6 f7 f8 f9 f10 f11 f12 f13 f14 f15 f16 f17 f18 f19 f20 f21 f22 f23 f24 f25 f26 f27 f28 f29 f30 fa f32 CBadWeb CBadRow CNotKept PP30 PP31)) T C29
  have b30 := F30.binds (ps := ["pen", "web", "call"]) fun _ _ _ _ _ _ us hl => match us, hl with | [_, _, _], _ => rfl
  have lt30 : LamT mg base (gmT f0 f1 f2 f3 f4 f5 f6 f7 f8 f9 f10 f11 f12 f13 f14 f15 f16 f17 f18 f19 f20 f21 f22 f23 f24 f25 f26 f27 f28 f29 f30 fa f32 CBadWeb CBadRow CNotKept PP30 PP31) q__law_refused_right (PySem.W.fnOf "_law_refused_right" "_law_refused_right" (defArgs s__law_refused_right) (defBody s__law_refused_right) (defScope s__law_refused_right) .none kV30 dc30 pm30 an30 (.ref cc30) ct30) := ⟨cc30, PP30, rfl, hTB (cc30, PP30) (by simp), by simp [gmT], by
    intro p hm hp
    simp only [gmT, List.mem_cons, List.not_mem_nil, or_false] at hm
    rcases hm with rfl | rfl
    · exact rfl
    · exact absurd hp.symm w30_31⟩
  have C30 := cl__law_refused_right (P := l.prog) (w := w) (base := base) (g := (gmT f0 f1 f2 f3 f4 f5 f6 f7 f8 f9 f10 f11 f12 f13 f14 f15 f16 f17 f18 f19 f20 f21 f22 f23 f24 f25 f26 f27 f28 f29 f30 fa f32 CBadWeb CBadRow CNotKept PP30 PP31)) T C5 C3 C4 M__law_met so rfl rfl rfl rfl LO0 LO1 LO2 LO3 F30 rfl (PySem.W.mg_of X G a30) b30 lt30
  have lt31 : LamT mg base (gmT f0 f1 f2 f3 f4 f5 f6 f7 f8 f9 f10 f11 f12 f13 f14 f15 f16 f17 f18 f19 f20 f21 f22 f23 f24 f25 f26 f27 f28 f29 f30 fa f32 CBadWeb CBadRow CNotKept PP30 PP31) q_law (PySem.W.fnOf "law" "law" (defArgs s_law) (defBody s_law) (defScope s_law) .none kV31 dc31 pm31 an31 (.ref cc31) ct31) := ⟨cc31, PP31, rfl, hTB (cc31, PP31) (by simp), by simp [gmT], by
    intro p hm hp
    simp only [gmT, List.mem_cons, List.not_mem_nil, or_false] at hm
    rcases hm with rfl | rfl
    · exact absurd hp w30_31
    · exact rfl⟩
  exact fn_law T C2 C21 C3 C12 C11 C13 C6 C25 C28 C7 C26 C29 C8 C30 M__law_met so rfl rfl rfl rfl F31 lt31
end Dl

open PySem PySem.W PyProof.Rows in
set_option maxRecDepth 100000 in
set_option maxHeartbeats 0 in
theorem PySem.Challenge.cw_countedmaps_k71_whole_hues_and_direction_holds : PySem.Challenge.rw_countedmaps_k71_whole_hues_and_direction.Holds := by
  w_on; o_law; k_head; (case hw => w_witness2)
  k_fill
  refine Dl.walk_ofG (l := PySem.Challenge.rw_countedmaps_k71_whole_hues_and_direction) (k := 14) (x := "script") Dl.law_holds rfl rfl ⟨rfl, by decide, by decide⟩ (fun w h Y => by first | exact PySem.W.kIn_of Y | exact PySem.W.km_in_of Y) ?F
  case F =>
    intro w mg fa h KX G hmg own
    refine' Dl.all_mk KX G hmg own ?a0 ?l0 ?c0 ?k0 ?a1 ?l1 ?c1 ?k1 ?a2 ?l2 ?c2 ?k2 ?a3 ?l3 ?c3 ?k3 ?a4 ?l4 ?c4 ?k4 ?a5 ?l5 ?c5 ?k5 ?a6 ?l6 ?c6 ?k6 ?a7 ?l7 ?c7 ?k7 ?a8 ?l8 ?c8 ?k8 ?a9 ?l9 ?c9 ?k9 ?a10 ?l10 ?c10 ?k10 ?a11 ?l11 ?c11 ?k11 ?a12 ?l12 ?c12 ?k12 ?a13 ?l13 ?c13 ?k13 ?a14 ?l14 ?c14 ?k14 ?a15 ?l15 ?c15 ?k15 ?a16 ?l16 ?c16 ?k16 ?a17 ?l17 ?c17 ?k17 ?a18 ?l18 ?c18 ?k18 ?a19 ?l19 ?c19 ?k19 ?a20 ?l20 ?c20 ?k20 ?a21 ?l21 ?c21 ?k21 ?a22 ?l22 ?c22 ?k22 ?a23 ?l23 ?c23 ?k23 ?a24 ?l24 ?c24 ?k24 ?a25 ?l25 ?c25 ?k25 ?a26 ?l26 ?c26 ?k26 ?a27 ?l27 ?c27 ?k27 ?a28 ?l28 ?c28 ?k28 ?a29 ?l29 ?c29 ?k29 ?a30 ?l30 ?c30 ?k30 ?a31 ?l31 ?c31 ?k31 ?a32 ?l32 ?c32 ?k32 ?u30 ?v30 ?n30 ?h30 ?r30 ?u31 ?v31 ?n31 ?h31 ?r31 ?w30_31 ?xaBadWeb ?xlBadWeb ?xsBadWeb ?xeBadWeb ?xtBadWeb ?xkBadWeb ?xfBadWeb ?xnBadWeb ?xiBadWeb ?xyBadWeb ?xoBadWeb ?xcBadWeb ?xpBadWeb ?xaBadRow ?xlBadRow ?xsBadRow ?xeBadRow ?xtBadRow ?xkBadRow ?xfBadRow ?xnBadRow ?xiBadRow ?xyBadRow ?xoBadRow ?xcBadRow ?xpBadRow ?xaNotKept ?xlNotKept ?xsNotKept ?xeNotKept ?xtNotKept ?xkNotKept ?xfNotKept ?xnNotKept ?xiNotKept ?xyNotKept ?xoNotKept ?xcNotKept ?xpNotKept ?xmBadWeb_BadWeb ?xmBadWeb_BadRow ?xmBadWeb_NotKept ?xmBadRow_BadWeb ?xmBadRow_BadRow ?xmBadRow_NotKept ?xmNotKept_BadWeb ?xmNotKept_BadRow ?xmNotKept_NotKept ?z_len ?z_abs ?z_int ?z_bool ?z_str ?z_min ?z_max ?z_sum ?z_all ?z_any ?z_tuple ?z_list ?z_dict ?z_sorted ?z_repr ?z_isinstance ?z_range ?z_enumerate ?z_zip
    (case a0 => k_is)
    (case l0 => k_is)
    (case c0 => k_is)
    (case k0 => k_is)
    (case a1 => k_is)
    (case l1 => k_is)
    (case c1 => k_is)
    (case k1 => k_is)
    (case a2 => k_is)
    (case l2 => k_is)
    (case c2 => k_is)
    (case k2 => k_is)
    (case a3 => k_is)
    (case l3 => k_is)
    (case c3 => k_is)
    (case k3 => k_is)
    (case a4 => k_is)
    (case l4 => k_is)
    (case c4 => k_is)
    (case k4 => k_is)
    (case a5 => k_is)
    (case l5 => k_is)
    (case c5 => k_is)
    (case k5 => k_is)
    (case a6 => k_is)
    (case l6 => k_is)
    (case c6 => k_is)
    (case k6 => k_is)
    (case a7 => k_is)
    (case l7 => k_is)
    (case c7 => k_is)
    (case k7 => k_is)
    (case a8 => k_is)
    (case l8 => k_is)
    (case c8 => k_is)
    (case k8 => k_is)
    (case a9 => k_is)
    (case l9 => k_is)
    (case c9 => k_is)
    (case k9 => k_is)
    (case a10 => k_is)
    (case l10 => k_is)
    (case c10 => k_is)
    (case k10 => k_is)
    (case a11 => k_is)
    (case l11 => k_is)
    (case c11 => k_is)
    (case k11 => k_is)
    (case a12 => k_is)
    (case l12 => k_is)
    (case c12 => k_is)
    (case k12 => k_is)
    (case a13 => k_is)
    (case l13 => k_is)
    (case c13 => k_is)
    (case k13 => k_is)
    (case a14 => k_is)
    (case l14 => k_is)
    (case c14 => k_is)
    (case k14 => k_is)
    (case a15 => k_is)
    (case l15 => k_is)
    (case c15 => k_is)
    (case k15 => k_is)
    (case a16 => k_is)
    (case l16 => k_is)
    (case c16 => k_is)
    (case k16 => k_is)
    (case a17 => k_is)
    (case l17 => k_is)
    (case c17 => k_is)
    (case k17 => k_is)
    (case a18 => k_is)
    (case l18 => k_is)
    (case c18 => k_is)
    (case k18 => k_is)
    (case a19 => k_is)
    (case l19 => k_is)
    (case c19 => k_is)
    (case k19 => k_is)
    (case a20 => k_is)
    (case l20 => k_is)
    (case c20 => k_is)
    (case k20 => k_is)
    (case a21 => k_is)
    (case l21 => k_is)
    (case c21 => k_is)
    (case k21 => k_is)
    (case a22 => k_is)
    (case l22 => k_is)
    (case c22 => k_is)
    (case k22 => k_is)
    (case a23 => k_is)
    (case l23 => k_is)
    (case c23 => k_is)
    (case k23 => k_is)
    (case a24 => k_is)
    (case l24 => k_is)
    (case c24 => k_is)
    (case k24 => k_is)
    (case a25 => k_is)
    (case l25 => k_is)
    (case c25 => k_is)
    (case k25 => k_is)
    (case a26 => k_is)
    (case l26 => k_is)
    (case c26 => k_is)
    (case k26 => k_is)
    (case a27 => k_is)
    (case l27 => k_is)
    (case c27 => k_is)
    (case k27 => k_is)
    (case a28 => k_is)
    (case l28 => k_is)
    (case c28 => k_is)
    (case k28 => k_is)
    (case a29 => k_is)
    (case l29 => k_is)
    (case c29 => k_is)
    (case k29 => k_is)
    (case a30 => k_is)
    (case l30 => k_is)
    (case c30 => k_is)
    (case k30 => k_is)
    (case a31 => k_is)
    (case l31 => k_is)
    (case c31 => k_is)
    (case k31 => k_is)
    (case a32 => k_is)
    (case l32 => k_is)
    (case c32 => k_is)
    (case k32 => k_is)
    (case u30 => k_is)
    (case v30 => rfl)
    (case n30 => kernel_rfl)
    (case h30 => kernel_rfl)
    (case r30 => decide +kernel)
    (case u31 => k_is)
    (case v31 => rfl)
    (case n31 => kernel_rfl)
    (case h31 => kernel_rfl)
    (case r31 => decide +kernel)
    (case w30_31 => decide +kernel)
    (case xaBadWeb => k_is)
    (case xlBadWeb => kernel_rfl)
    (case xsBadWeb => k_is)
    (case xeBadWeb => k_is)
    (case xtBadWeb => k_is)
    (case xkBadWeb => k_is)
    (case xfBadWeb => kernel_rfl)
    (case xnBadWeb => kernel_rfl)
    (case xiBadWeb => k_is)
    (case xyBadWeb => k_is)
    (case xoBadWeb => k_is)
    (case xcBadWeb => k_is)
    (case xpBadWeb => k_is)
    (case xaBadRow => k_is)
    (case xlBadRow => kernel_rfl)
    (case xsBadRow => k_is)
    (case xeBadRow => k_is)
    (case xtBadRow => k_is)
    (case xkBadRow => k_is)
    (case xfBadRow => kernel_rfl)
    (case xnBadRow => kernel_rfl)
    (case xiBadRow => k_is)
    (case xyBadRow => k_is)
    (case xoBadRow => k_is)
    (case xcBadRow => k_is)
    (case xpBadRow => k_is)
    (case xaNotKept => k_is)
    (case xlNotKept => kernel_rfl)
    (case xsNotKept => k_is)
    (case xeNotKept => k_is)
    (case xtNotKept => k_is)
    (case xkNotKept => k_is)
    (case xfNotKept => kernel_rfl)
    (case xnNotKept => kernel_rfl)
    (case xiNotKept => k_is)
    (case xyNotKept => k_is)
    (case xoNotKept => k_is)
    (case xcNotKept => k_is)
    (case xpNotKept => k_is)
    (case xmBadWeb_BadWeb => kernel_rfl)
    (case xmBadWeb_BadRow => kernel_rfl)
    (case xmBadWeb_NotKept => kernel_rfl)
    (case xmBadRow_BadWeb => kernel_rfl)
    (case xmBadRow_BadRow => kernel_rfl)
    (case xmBadRow_NotKept => kernel_rfl)
    (case xmNotKept_BadWeb => kernel_rfl)
    (case xmNotKept_BadRow => kernel_rfl)
    (case xmNotKept_NotKept => kernel_rfl)
    (case z_len => k_is)
    (case z_abs => k_is)
    (case z_int => k_is)
    (case z_bool => k_is)
    (case z_str => k_is)
    (case z_min => k_is)
    (case z_max => k_is)
    (case z_sum => k_is)
    (case z_all => k_is)
    (case z_any => k_is)
    (case z_tuple => k_is)
    (case z_list => k_is)
    (case z_dict => k_is)
    (case z_sorted => k_is)
    (case z_repr => k_is)
    (case z_isinstance => k_is)
    (case z_range => k_is)
    (case z_enumerate => k_is)
    (case z_zip => k_is)

