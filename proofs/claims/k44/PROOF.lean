import PyProof.Rows.All
import Wide.All
import OpenK.AllK
import Wide.FinOn
import HandS.ForMost
import HandS.ForExc
import HandS.IsInst
import HandS.Wide
import HandS.HeadHook2
import HandS.More
import HandS.ExcIs
import HandS.Defaults
import HandS.Head0
import HandS.Head1
import HandS.Head2
import HandS.HeadEnd
import HandS.HeadHook1
import HandS.ExcValue
import PyProof.ReprRoads
import HandS.Conv
import HandS.Dict
import HandS.Style
import HandS.RaiseMore
import KE.KExcIs
import PySem.Challenge.RW_rankkeys_k44_survival_of_gaps
set_option Elab.async false
set_option linter.all false
set_option maxRecDepth 100000
set_option maxHeartbeats 0
/-! Layer Z, part A: data, how it lies in a heap, frames. -/
namespace Z
open PySem L2

/-- plain data -/
inductive D where
  | non | bl (b : Bool) | int (i : Int) | str (x : Str)
  | lst (ds : List D) | tup (ds : List D)
  | dct (ks : List Key) (ds : List D)
  | ins (c : Str) (ns : List Str) (ds : List D)
  | raw (v : V) | fro (ds : List D)
  | exc (c : Str) | exf (c : Str) (ns : List Str) (ds : List D)

/-- an exception of the class cls, kept as a value; d its own dict -/
def ExH (cls : Value) (d : Option Addr) (a : Addr) : HO := .ext fun h => ∃ (oe : Obj) (vs : Array Value), h.get? a = some oe ∧ Zc cls d oe ∧ oe.data = .fields vs
mutual
/-- d lies at v in the heap S -/
def Rep (K : PySem.W.Frag) (S : Hp) : D → V → Prop
  | .non, v => v = .non
  | .bl b, v => v = .bl b
  | .int i, v => v = .int i
  | .str x, v => v = .str x
  | .raw u, v => v = u
  | .lst ds, v => ∃ a vs, v = .ref a ∧ S a = some (.lst vs) ∧ RepL K S ds vs
  | .tup ds, v => ∃ a vs, v = .ref a ∧ S a = some (.tup vs) ∧ RepL K S ds vs
  | .fro ds, v => ∃ a vs, v = .ref a ∧ SqL K S a vs ∧ RepL K S ds vs
  | .dct ks ds, v => ∃ a kvs, v = .ref a ∧ S a = some (.dK kvs) ∧ kvs.map (·.1) = ks ∧ RepL K S ds (kvs.map (·.2))
  | .ins c ns ds, v => ∃ a dx fs, v = .ref a ∧ S a = some (.ins (He.ga K c) dx fs) ∧ fs.map (·.1) = ns ∧ RepL K S ds (fs.map (·.2))
  | .exc c, v => ∃ a, v = .ref a ∧ S a = some (ExH (.ref (He.ga K c)) none a)
  | .exf c ns ds, v => ∃ a b fs, v = .ref a ∧ S a = some (ExH (.ref (He.ga K c)) (some b) a) ∧ S b = some (.xd fs) ∧ fs.map (·.1) = ns ∧ RepL K S ds (fs.map (·.2))
def RepL (K : PySem.W.Frag) (S : Hp) : List D → List V → Prop
  | [], vs => vs = []
  | d :: ds, vs => ∃ v r, vs = v :: r ∧ Rep K S d v ∧ RepL K S ds r
end

def Ex (H H' : Hp) : Prop := ∀ a o, H a = some o → H' a = some o
theorem Ex.refl (H : Hp) : Ex H H := fun _ _ h => h
theorem Ex.trans {H H1 H2 : Hp} (a : Ex H H1) (b : Ex H1 H2) : Ex H H2 := fun x o h => b x o (a x o h)
theorem Ex.upd {H H' : Hp} {p : Addr} {o : HO} (e : Ex H H') (h : H p = none) : Ex H (L2.upd H' p o) := fun a u ha => by
  rw [upd_ne (ne_of_none ha h)]
  exact e a u ha
theorem Ex.none {H H' : Hp} {p : Addr} (e : Ex H H') (h : H' p = Option.none) : H p = Option.none := by
  cases q : H p with
  | none => rfl
  | some o =>
    have z := e p o q
    rw [h] at z
    cases z
theorem Ex.rd {H H' : Hp} {a : Addr} {u : HO} (e : Ex H H') (h : Rd H a u) : Rd H' a u := by
  rcases h with h | ⟨o, h⟩
  · exact .inl (e a _ h)
  · exact .inr ⟨o, e a _ h⟩
theorem Ex.l {K : PySem.W.Frag} {H H' : Hp} {a : Addr} {xs : List V} (e : Ex H H') (h : SqL K H a xs) : SqL K H' a xs := by
  rcases h with h | h
  · exact .inl (e.rd h)
  · exact .inr h
theorem Ex.t {K : PySem.W.Frag} {H H' : Hp} {a : Addr} {xs : List V} (e : Ex H H') (h : SqT K H a xs) : SqT K H' a xs := by
  rcases h with h | h
  · exact .inl (e.rd h)
  · exact .inr h

section
variable {K : PySem.W.Frag} {S S' : Hp}
mutual
theorem Rep.mono (e : Ex S S') : ∀ (d : D) {v : V}, Rep K S d v → Rep K S' d v
  | .non, _, h => h
  | .bl _, _, h => h
  | .int _, _, h => h
  | .str _, _, h => h
  | .raw _, _, h => h
  | .lst ds, _, h => by
    obtain ⟨a, vs, rfl, h1, h2⟩ := h
    exact ⟨a, vs, rfl, e _ _ h1, RepL.mono e ds h2⟩
  | .tup ds, _, h => by
    obtain ⟨a, vs, rfl, h1, h2⟩ := h
    exact ⟨a, vs, rfl, e _ _ h1, RepL.mono e ds h2⟩
  | .fro ds, _, h => by
    obtain ⟨a, vs, rfl, h1, h2⟩ := h
    exact ⟨a, vs, rfl, e.l h1, RepL.mono e ds h2⟩
  | .dct ks ds, _, h => by
    obtain ⟨a, vs, rfl, h1, h3, h2⟩ := h
    exact ⟨a, vs, rfl, e _ _ h1, h3, RepL.mono e ds h2⟩
  | .ins c ns ds, _, h => by
    obtain ⟨a, dx, vs, rfl, h1, h3, h2⟩ := h
    exact ⟨a, dx, vs, rfl, e _ _ h1, h3, RepL.mono e ds h2⟩
  | .exc c, _, h => by
    obtain ⟨a, rfl, h1⟩ := h
    exact ⟨a, rfl, e _ _ h1⟩
  | .exf c ns ds, _, h => by
    obtain ⟨a, b, fs, rfl, h1, h2, h3, h4⟩ := h
    exact ⟨a, b, fs, rfl, e _ _ h1, e _ _ h2, h3, RepL.mono e ds h4⟩
theorem RepL.mono (e : Ex S S') : ∀ (ds : List D) {vs : List V}, RepL K S ds vs → RepL K S' ds vs
  | [], _, h => h
  | d :: ds, _, h => by
    obtain ⟨v, r, rfl, h1, h2⟩ := h
    exact ⟨v, r, rfl, Rep.mono e d h1, RepL.mono e ds h2⟩
end
theorem RepL.length : ∀ {ds : List D} {vs : List V}, RepL K S ds vs → vs.length = ds.length
  | [], _, h => by
    have e : _ = [] := h
    subst e
    rfl
  | d :: ds, _, h => by
    obtain ⟨v, r, rfl, _, h2⟩ := h
    exact congrArg Nat.succ (RepL.length h2)
theorem RepL.get : ∀ {ds : List D} {vs : List V} {i : Nat} {d : D}, RepL K S ds vs → ds[i]? = some d → ∃ v, vs[i]? = some v ∧ Rep K S d v
  | [], _, i, d, _, e => by simp at e
  | _ :: _, _, 0, d, h, e => by
    obtain ⟨v, r, rfl, h1, _⟩ := h
    simp only [List.getElem?_cons_zero, Option.some.injEq] at e
    subst e
    exact ⟨v, rfl, h1⟩
  | _ :: ds, _, i + 1, d, h, e => by
    obtain ⟨v, r, rfl, _, h2⟩ := h
    obtain ⟨u, e1, e2⟩ := RepL.get (i := i) h2 (by simpa using e)
    exact ⟨u, by simpa using e1, e2⟩
theorem RepL.get' : ∀ {ds : List D} {vs : List V} {i : Nat} {v : V}, RepL K S ds vs → vs[i]? = some v → ∃ d, ds[i]? = some d ∧ Rep K S d v
  | [], _, i, v, h, e => by
    have z : _ = [] := h
    subst z
    simp at e
  | d :: _, _, 0, v, h, e => by
    obtain ⟨u, r, rfl, h1, _⟩ := h
    simp only [List.getElem?_cons_zero, Option.some.injEq] at e
    subst e
    exact ⟨d, rfl, h1⟩
  | _ :: ds, _, i + 1, v, h, e => by
    obtain ⟨u, r, rfl, _, h2⟩ := h
    obtain ⟨d, e1, e2⟩ := RepL.get' (i := i) h2 (by simpa using e)
    exact ⟨d, by simpa using e1, e2⟩
theorem RepL.append : ∀ {ds es : List D} {vs us : List V}, RepL K S ds vs → RepL K S es us → RepL K S (ds ++ es) (vs ++ us)
  | [], es, _, us, h, h' => by
    have z : _ = [] := h
    subst z
    exact h'
  | d :: ds, es, _, us, h, h' => by
    obtain ⟨v, r, rfl, h1, h2⟩ := h
    exact ⟨v, r ++ us, rfl, h1, RepL.append h2 h'⟩
theorem RepL.one {d : D} {v : V} (h : Rep K S d v) : RepL K S [d] [v] := ⟨v, [], rfl, h, rfl⟩
theorem RepL.set : ∀ {ds : List D} {vs : List V} (i : Nat) {d : D} {v : V}, RepL K S ds vs → Rep K S d v → RepL K S (ds.set i d) (vs.set i v)
  | [], _, _, _, _, h, _ => by
    have z : _ = [] := h
    subst z
    rfl
  | _ :: _, _, 0, _, v, h, h' => by
    obtain ⟨u, r, rfl, _, h2⟩ := h
    exact ⟨v, r, rfl, h', h2⟩
  | _ :: _, _, i + 1, _, v, h, h' => by
    obtain ⟨u, r, rfl, h1, h2⟩ := h
    exact ⟨u, r.set i v, rfl, h1, RepL.set i h2 h'⟩
theorem RepL.take : ∀ {ds : List D} {vs : List V} (i : Nat), RepL K S ds vs → RepL K S (ds.take i) (vs.take i)
  | _, _, 0, _ => by simp only [List.take_zero]; rfl
  | [], _, _ + 1, h => by
    have z : _ = [] := h
    subst z
    rfl
  | _ :: _, _, i + 1, h => by
    obtain ⟨u, r, rfl, h1, h2⟩ := h
    exact ⟨u, r.take i, rfl, h1, RepL.take i h2⟩
theorem RepL.drop : ∀ {ds : List D} {vs : List V} (i : Nat), RepL K S ds vs → RepL K S (ds.drop i) (vs.drop i)
  | _, _, 0, h => by simpa using h
  | [], _, _ + 1, h => by
    have z : _ = [] := h
    subst z
    rfl
  | _ :: _, _, i + 1, h => by
    obtain ⟨u, r, rfl, h1, h2⟩ := h
    exact RepL.drop i h2
/-- lists of whole numbers, of texts, of truth values -/
theorem RepL.ints : ∀ {ns : List Int} {vs : List V}, RepL K S (ns.map D.int) vs ↔ vs = ns.map V.int
  | [], _ => Iff.rfl
  | n :: ns, vs => by
    constructor
    · rintro ⟨v, r, rfl, h1, h2⟩
      rw [RepL.ints.mp h2, show v = V.int n from h1]
      rfl
    · rintro rfl
      exact ⟨_, _, rfl, rfl, RepL.ints.mpr rfl⟩
theorem RepL.strs : ∀ {ns : List Str} {vs : List V}, RepL K S (ns.map D.str) vs ↔ vs = ns.map V.str
  | [], _ => Iff.rfl
  | n :: ns, vs => by
    constructor
    · rintro ⟨v, r, rfl, h1, h2⟩
      rw [RepL.strs.mp h2, show v = V.str n from h1]
      rfl
    · rintro rfl
      exact ⟨_, _, rfl, rfl, RepL.strs.mpr rfl⟩
theorem RepL.bls : ∀ {ns : List Bool} {vs : List V}, RepL K S (ns.map D.bl) vs ↔ vs = ns.map V.bl
  | [], _ => Iff.rfl
  | n :: ns, vs => by
    constructor
    · rintro ⟨v, r, rfl, h1, h2⟩
      rw [RepL.bls.mp h2, show v = V.bl n from h1]
      rfl
    · rintro rfl
      exact ⟨_, _, rfl, rfl, RepL.bls.mpr rfl⟩
end

/-! ### objects that may still change -/
inductive Ob where
  | lst (ds : List D) | dct (ks : List Key) (ds : List D) | ins (c : Str) (ns : List Str) (ds : List D)
  | pen (k : Nat)
/-- what a slot holds: anything | data | the one reference to an object that may change | (behind the slots) such an object that no slot names -/
inductive Sl where
  | no | dat (d : D) | own (l : Bool) (p : Addr) (o : Ob) | gh (l : Bool) (p : Addr) (o : Ob)
/-- the drawing pen: its cells, the number of calls, what is left of a number -/
def PenOk (k : Nat) (cs : List Int) (i n : Int) : Prop := 0 ≤ i ∧ i ≤ (k : Int) ∧ k ≤ 1000000000000 ∧ 0 ≤ n ∧ cs.length ≤ 60
def ObRep (K : PySem.W.Frag) (S H : Hp) (p : Addr) : Ob → Prop
  | .lst ds => ∃ vs, H p = some (.lst vs) ∧ RepL K S ds vs
  | .dct ks ds => ∃ kvs, H p = some (.dK kvs) ∧ kvs.map (·.1) = ks ∧ RepL K S ds (kvs.map (·.2))
  | .ins c ns ds => ∃ dx fs, H p = some (.ins (He.ga K c) dx fs) ∧ fs.map (·.1) = ns ∧ RepL K S ds (fs.map (·.2))
  | .pen k => ∃ (cs : List Int) (i n : Int) (vs : List V), PenOk k cs i n ∧ H p = some (.lst vs) ∧ RepL K S [.lst (cs.map D.int), .int i, .int n] vs
theorem ObRep.there {K : PySem.W.Frag} {S H : Hp} {p : Addr} : ∀ {o : Ob}, ObRep K S H p o → ∃ u, H p = some u ∧ Mut (some u)
  | .lst _, ⟨_, h, _⟩ => ⟨_, h, True.intro⟩
  | .dct _ _, ⟨_, h, _⟩ => ⟨_, h, True.intro⟩
  | .ins _ _ _, ⟨_, _, h, _⟩ => ⟨_, h, True.intro⟩
  | .pen _, ⟨_, _, _, _, _, h, _⟩ => ⟨_, h, True.intro⟩
theorem ObRep.mono {K : PySem.W.Frag} {S S' H H' : Hp} {p : Addr} (e : Ex S S') (k : ∀ u, H p = some u → H' p = some u) : ∀ {o : Ob}, ObRep K S H p o → ObRep K S' H' p o
  | .lst _, ⟨vs, h, r⟩ => ⟨vs, k _ h, r.mono e⟩
  | .dct _ _, ⟨vs, h, q, r⟩ => ⟨vs, k _ h, q, r.mono e⟩
  | .ins _ _ _, ⟨dx, vs, h, q, r⟩ => ⟨dx, vs, k _ h, q, r.mono e⟩
  | .pen _, ⟨cs, i, n, vs, q, h, r⟩ => ⟨cs, i, n, vs, q, k _ h, r.mono e⟩
def Sl.addr : Sl → Option Addr
  | .own _ p _ => some p
  | .gh _ p _ => some p
  | _ => none
def owns (Γ : List Sl) : List Addr := Γ.filterMap Sl.addr
/-- a def's entry: the stable heap, the heap, the objects handed in that may change -/
structure Fm where
  S : Hp
  H : Hp
  own : List Addr
/-- l: it is this def's own; else it was handed in -/
def Whose (f : Fm) (p : Addr) : Bool → Prop
  | true => f.H p = none
  | false => p ∈ f.own
def SlOk (K : PySem.W.Frag) (f : Fm) (S H : Hp) (ov : Option (Option V)) : Sl → Prop
  | .no => True
  | .dat d => ∃ v, ov = some (some v) ∧ Rep K S d v
  | .own l p o => ov = some (some (.ref p)) ∧ S p = none ∧ Whose f p l ∧ ObRep K S H p o
  | .gh l p o => S p = none ∧ Whose f p l ∧ ObRep K S H p o
/-- the interpreter's table of modules stands apart -/
def Sys (f : Fm) : Prop := ∃ o φ, f.H 1 = some (.frz o (.ext φ)) ∧ 1 ∉ f.own
structure At (K : PySem.W.Frag) (n : Nat) (f : Fm) (S H : Hp) (σ : St) (Γ : List Sl) : Prop where
  sub : Ex f.S S
  ex : Ex S H
  keep : ∀ a o, f.H a = some o → a ∉ f.own → H a = some o
  fresh : ∀ a o, S a = some o → f.S a = some o ∨ f.H a = none
  stay : ∀ a u, f.H a = some u → ∃ u', H a = some u'
  len : σ.length = n
  sl : ∀ (i : Nat) (s : Sl), Γ[i]? = some s → SlOk K f S H σ[i]? s
  nd : (owns Γ).Nodup
  sys : Sys f
theorem mem_owns {Γ : List Sl} {p : Addr} (h : p ∈ owns Γ) : ∃ (i : Nat) (s : Sl), Γ[i]? = some s ∧ s.addr = some p := by
  obtain ⟨s, h1, h2⟩ := List.mem_filterMap.mp h
  obtain ⟨i, h3⟩ := List.getElem?_of_mem h1
  exact ⟨i, s, h3, h2⟩
theorem of_owns {Γ : List Sl} {p : Addr} {i : Nat} {s : Sl} (h : Γ[i]? = some s) (e : s.addr = some p) : p ∈ owns Γ :=
  List.mem_filterMap.mpr ⟨s, List.mem_of_getElem? h, e⟩
theorem owns_inj : ∀ {Γ : List Sl} {i j : Nat} {s u : Sl} {p : Addr}, (owns Γ).Nodup → Γ[i]? = some s → Γ[j]? = some u → s.addr = some p → u.addr = some p → i = j
  | [], i, j, s, u, p, _, h, _, _, _ => by simp at h
  | a :: Γ, 0, 0, _, _, _, _, _, _, _, _ => rfl
  | a :: Γ, 0, j + 1, s, u, p, nd, h1, h2, e1, e2 => by
    simp only [List.getElem?_cons_zero, Option.some.injEq] at h1
    subst h1
    have h2' : Γ[j]? = some u := by simpa using h2
    have : (owns (a :: Γ)) = p :: owns Γ := by
      unfold owns
      rw [List.filterMap_cons, e1]
    rw [this] at nd
    exact absurd (of_owns h2' e2) (List.nodup_cons.mp nd).1
  | a :: Γ, i + 1, 0, s, u, p, nd, h1, h2, e1, e2 => by
    simp only [List.getElem?_cons_zero, Option.some.injEq] at h2
    subst h2
    have h1' : Γ[i]? = some s := by simpa using h1
    have : (owns (a :: Γ)) = p :: owns Γ := by
      unfold owns
      rw [List.filterMap_cons, e2]
    rw [this] at nd
    exact absurd (of_owns h1' e1) (List.nodup_cons.mp nd).1
  | a :: Γ, i + 1, j + 1, s, u, p, nd, h1, h2, e1, e2 => by
    have nd' : (owns Γ).Nodup := by
      unfold owns at nd ⊢
      rw [List.filterMap_cons] at nd
      split at nd
      · exact nd
      · exact (List.nodup_cons.mp nd).2
    exact congrArg Nat.succ (owns_inj (i := i) (j := j) nd' (by simpa using h1) (by simpa using h2) e1 e2)
section
variable {K : PySem.W.Frag} {n : Nat} {f : Fm} {S S2 H H2 : Hp} {σ : St} {Γ : List Sl}
/-- an owned object stands, outside of the stable heap -/
theorem SlOk.owned {ov : Option (Option V)} {s : Sl} {p : Addr} (q : SlOk K f S H ov s) (e : s.addr = some p) : S p = none ∧ (f.H p = none ∨ p ∈ f.own) ∧ ∃ u, H p = some u ∧ Mut (some u) := by
  cases s with
  | no => cases e
  | dat d => cases e
  | own l p' o =>
    cases e
    obtain ⟨_, h1, h2, h3⟩ := q
    exact ⟨h1, by cases l with
      | true => exact .inl h2
      | false => exact .inr h2, h3.there⟩
  | gh l p' o =>
    cases e
    obtain ⟨h1, h2, h3⟩ := q
    exact ⟨h1, by cases l with
      | true => exact .inl h2
      | false => exact .inr h2, h3.there⟩
theorem At.own_at (A : At K n f S H σ Γ) {p : Addr} (h : p ∈ owns Γ) : S p = none ∧ (f.H p = none ∨ p ∈ f.own) ∧ ∃ u, H p = some u ∧ Mut (some u) := by
  obtain ⟨i, s, e1, e2⟩ := mem_owns h
  exact (A.sl i s e1).owned e2
/-- what stands and may not change is not owned -/
theorem At.not_own (A : At K n f S H σ Γ) {p : Addr} {u : HO} (h : f.H p = some u) (h' : p ∉ f.own) : p ∉ owns Γ := fun m => by
  obtain ⟨_, q, _⟩ := A.own_at m
  rcases q with q | q
  · rw [h] at q
    cases q
  · exact h' q
theorem SlOk.keep {ov : Option (Option V)} {s : Sl} (q : SlOk K f S H ov s) (e1 : Ex S S2) (fr : ∀ a o, S2 a = some o → S a = some o ∨ H a = none) (e3 : ∀ p u, s.addr = some p → H p = some u → H2 p = some u) : SlOk K f S2 H2 ov s := by
  have key : ∀ p o, s.addr = some p → S p = none → ObRep K S H p o → S2 p = none ∧ ObRep K S2 H2 p o := fun p o ha h1 h2 => by
    obtain ⟨u, hu, _⟩ := h2.there
    refine ⟨?_, h2.mono e1 fun u' hu' => e3 p u' ha hu'⟩
    cases z : S2 p with
    | none => rfl
    | some o' =>
      rcases fr p o' z with q | q
      · rw [h1] at q
        cases q
      · rw [hu] at q
        cases q
  cases s with
  | no => exact True.intro
  | dat d =>
    obtain ⟨v, h1, h2⟩ := q
    exact ⟨v, h1, h2.mono e1 d⟩
  | own l p o =>
    obtain ⟨h0, h1, hw, h2⟩ := q
    obtain ⟨k1, k2⟩ := key p o rfl h1 h2
    exact ⟨h0, k1, hw, k2⟩
  | gh l p o =>
    obtain ⟨h1, hw, h2⟩ := q
    obtain ⟨k1, k2⟩ := key p o rfl h1 h2
    exact ⟨k1, hw, k2⟩
/-- the heaps grow -/
theorem At.grow (A : At K n f S H σ Γ) (e1 : Ex S S2) (e2 : Ex S2 H2) (e3 : Ex H H2) (fr : ∀ a o, S2 a = some o → S a = some o ∨ H a = none) : At K n f S2 H2 σ Γ where
  sub := A.sub.trans e1
  ex := e2
  keep := fun a o h1 h2 => e3 a o (A.keep a o h1 h2)
  fresh := fun a o h => by
    rcases fr a o h with q | q
    · exact A.fresh a o q
    · refine .inr ?_
      cases z : f.H a with
      | none => rfl
      | some u =>
        obtain ⟨u', q'⟩ := A.stay a u z
        rw [q] at q'
        cases q'
  stay := fun a u h => by
    obtain ⟨u', q⟩ := A.stay a u h
    exact ⟨u', e3 a u' q⟩
  len := A.len
  sl := fun i s e => (A.sl i s e).keep e1 fr fun p u _ h => e3 p u h
  nd := A.nd
  sys := A.sys
/-- a new object is laid, and is part of the stable heap -/
theorem At.laid (A : At K n f S H σ Γ) {p : Addr} {u : HO} (hp : H p = none) : At K n f (upd S p u) (upd H p u) σ Γ := by
  have sp : S p = none := A.ex.none hp
  refine A.grow ((Ex.refl S).upd sp) (fun a o h => ?_) ((Ex.refl H).upd hp) fun a o h => ?_
  · by_cases e : a = p
    · subst e
      rw [upd_same] at h ⊢
      exact h
    · rw [upd_ne e] at h ⊢
      exact A.ex a o h
  · by_cases e : a = p
    · subst e
      exact .inr hp
    · rw [upd_ne e] at h
      exact .inl h
/-- a new object is laid, apart from the stable heap -/
theorem At.laidO (A : At K n f S H σ Γ) {p : Addr} {u : HO} (hp : H p = none) : At K n f S (upd H p u) σ Γ :=
  A.grow (Ex.refl S) (A.ex.upd (A.ex.none hp)) ((Ex.refl H).upd hp) fun _ _ h => .inl h
theorem At.free (A : At K n f S H σ Γ) {p : Addr} (hp : H p = none) : f.H p = none ∧ p ∉ owns Γ ∧ S p = none := by
  refine ⟨?_, fun m => ?_, A.ex.none hp⟩
  · cases z : f.H p with
    | none => rfl
    | some u =>
      obtain ⟨u', q'⟩ := A.stay p u z
      rw [hp] at q'
      cases q'
  · obtain ⟨_, _, u, q, _⟩ := A.own_at m
    rw [hp] at q
    cases q
/-- a slot of data (or a forgotten one) is stored -/
theorem owns_set_sub : ∀ {Γ : List Sl} {i : Nat} {s : Sl}, s.addr = none → (owns (Γ.set i s)).Sublist (owns Γ)
  | [], _, _, _ => List.Sublist.refl _
  | a :: Γ, 0, s, h => by
    show (owns (s :: Γ)).Sublist (owns (a :: Γ))
    unfold owns
    rw [List.filterMap_cons, h, List.filterMap_cons]
    cases a.addr with
    | none => exact List.Sublist.refl _
    | some p => exact List.sublist_cons_self _ _
  | a :: Γ, i + 1, s, h => by
    show (owns (a :: Γ.set i s)).Sublist (owns (a :: Γ))
    have ih := owns_set_sub (Γ := Γ) (i := i) h
    unfold owns at ih ⊢
    rw [List.filterMap_cons, List.filterMap_cons]
    cases a.addr with
    | none => exact ih
    | some p => exact ih.cons₂ _
theorem get_set {α : Type} {l : List α} {i j : Nat} {a b : α} (h : (l.set i a)[j]? = some b) : (j = i ∧ b = a) ∨ (j ≠ i ∧ l[j]? = some b) := by
  by_cases e : i = j
  · subst e
    rw [List.getElem?_set] at h
    split at h
    · split at h
      · exact .inl ⟨rfl, (Option.some.inj h).symm⟩
      · cases h
    · rename_i q
      exact absurd rfl q
  · rw [List.getElem?_set_ne e] at h
    exact .inr ⟨fun q => e q.symm, h⟩
theorem At.set_dat (A : At K n f S H σ Γ) {i : Nat} {d : D} {v : V} (hi : i < n) (r : Rep K S d v) : At K n f S H (σ.set i (some v)) (Γ.set i (.dat d)) where
  sub := A.sub
  ex := A.ex
  keep := A.keep
  fresh := A.fresh
  stay := A.stay
  len := by rw [List.length_set]; exact A.len
  nd := A.nd.sublist (owns_set_sub rfl)
  sys := A.sys
  sl := fun j s e => by
    rcases get_set e with ⟨rfl, rfl⟩ | ⟨ne, e⟩
    · exact ⟨v, by rw [List.getElem?_set_self (by rw [A.len]; exact hi)], r⟩
    · rw [List.getElem?_set_ne (Ne.symm ne)]
      exact A.sl j s e
theorem At.set_no (A : At K n f S H σ Γ) {i : Nat} {v : Option V} : At K n f S H (σ.set i v) (Γ.set i .no) where
  sub := A.sub
  ex := A.ex
  keep := A.keep
  fresh := A.fresh
  stay := A.stay
  len := by rw [List.length_set]; exact A.len
  nd := A.nd.sublist (owns_set_sub rfl)
  sys := A.sys
  sl := fun j s e => by
    rcases get_set e with ⟨rfl, rfl⟩ | ⟨ne, e⟩
    · exact True.intro
    · rw [List.getElem?_set_ne (Ne.symm ne)]
      exact A.sl j s e
theorem owns_set_own : ∀ {Γ : List Sl} {i : Nat} {l : Bool} {p : Addr} {o : Ob}, (owns Γ).Nodup → p ∉ owns Γ → (owns (Γ.set i (.own l p o))).Nodup
  | [], _, _, _, _, h, _ => h
  | a :: Γ, 0, l, p, o, h, h' => by
    show (owns (Sl.own l p o :: Γ)).Nodup
    have e : owns (Sl.own l p o :: Γ) = p :: owns Γ := rfl
    have hs : (owns Γ).Sublist (owns (a :: Γ)) := by
      unfold owns
      rw [List.filterMap_cons]
      cases a.addr with
      | none => exact List.Sublist.refl _
      | some q => exact List.sublist_cons_self _ _
    rw [e]
    exact List.nodup_cons.mpr ⟨fun m => h' (hs.mem m), h.sublist hs⟩
  | a :: Γ, i + 1, l, p, o, h, h' => by
    show (owns (a :: Γ.set i (.own l p o))).Nodup
    have sub : ∀ q ∈ owns (Γ.set i (.own l p o)), q = p ∨ q ∈ owns Γ := fun q m => by
      obtain ⟨j, s, e1, e2⟩ := mem_owns m
      rcases get_set e1 with ⟨rfl, rfl⟩ | ⟨_, e⟩
      · cases e2
        exact .inl rfl
      · exact .inr (of_owns e e2)
    cases ha : a.addr with
    | none =>
      have e1 : owns (a :: Γ) = owns Γ := by unfold owns; rw [List.filterMap_cons, ha]
      have e2 : owns (a :: Γ.set i (.own l p o)) = owns (Γ.set i (.own l p o)) := by unfold owns; rw [List.filterMap_cons, ha]
      rw [e1] at h h'
      rw [e2]
      exact owns_set_own h h'
    | some b =>
      have e1 : owns (a :: Γ) = b :: owns Γ := by unfold owns; rw [List.filterMap_cons, ha]
      have e2 : owns (a :: Γ.set i (.own l p o)) = b :: owns (Γ.set i (.own l p o)) := by unfold owns; rw [List.filterMap_cons, ha]
      rw [e1] at h h'
      rw [e2]
      obtain ⟨h1, h2⟩ := List.nodup_cons.mp h
      refine List.nodup_cons.mpr ⟨fun m => ?_, owns_set_own h2 fun m => h' (List.mem_cons_of_mem _ m)⟩
      rcases sub b m with z | z
      · exact h' (by rw [z]; exact List.mem_cons_self)
      · exact h1 z
/-- a new object of one's own is stored -/
theorem At.set_own (A : At K n f S H σ Γ) {i : Nat} {p : Addr} {o : Ob} (hi : i < n) (h1 : p ∉ owns Γ) (h2 : S p = none) (h3 : f.H p = none) (r : ObRep K S H p o) : At K n f S H (σ.set i (some (.ref p))) (Γ.set i (.own true p o)) where
  sub := A.sub
  ex := A.ex
  keep := A.keep
  fresh := A.fresh
  stay := A.stay
  len := by rw [List.length_set]; exact A.len
  nd := owns_set_own A.nd h1
  sys := A.sys
  sl := fun j s e => by
    rcases get_set e with ⟨rfl, rfl⟩ | ⟨ne, e⟩
    · exact ⟨by rw [List.getElem?_set_self (by rw [A.len]; exact hi)], h2, h3, r⟩
    · rw [List.getElem?_set_ne (Ne.symm ne)]
      exact A.sl j s e
theorem owns_reset : ∀ {Γ : List Sl} {i : Nat} {s s' : Sl}, Γ[i]? = some s → s'.addr = s.addr → owns (Γ.set i s') = owns Γ
  | [], _, _, _, h, _ => by simp at h
  | a :: Γ, 0, s, s', h, e => by
    simp only [List.getElem?_cons_zero, Option.some.injEq] at h
    subst h
    show owns (s' :: Γ) = owns (a :: Γ)
    unfold owns
    rw [List.filterMap_cons, List.filterMap_cons, e]
  | a :: Γ, i + 1, s, s', h, e => by
    have ih := owns_reset (Γ := Γ) (i := i) (by simpa using h) e
    show owns (a :: Γ.set i s') = owns (a :: Γ)
    unfold owns at ih ⊢
    rw [List.filterMap_cons, List.filterMap_cons, ih]
/-- an owned object changes -/
theorem At.change (A : At K n f S H σ Γ) {i : Nat} {l : Bool} {p : Addr} {o o' : Ob} {u : HO} (e : Γ[i]? = some (.own l p o)) (r : ObRep K S (upd H p u) p o') : At K n f S (upd H p u) σ (Γ.set i (.own l p o')) where
  sub := A.sub
  ex := A.ex.upd (A.sl i _ e).2.1
  keep := fun a o h1 h2 => by
    have ne : a ≠ p := fun z => A.not_own h1 h2 (of_owns e (by rw [z]; rfl))
    rw [upd_ne ne]
    exact A.keep a o h1 h2
  fresh := A.fresh
  stay := fun a u' h => by
    by_cases z : a = p
    · subst z
      exact ⟨u, upd_same⟩
    · obtain ⟨w, q⟩ := A.stay a u' h
      exact ⟨w, by rw [upd_ne z]; exact q⟩
  len := A.len
  nd := by
    rw [owns_reset (s' := .own l p o') e rfl]
    exact A.nd
  sys := A.sys
  sl := fun j s e2 => by
    rcases get_set e2 with ⟨rfl, rfl⟩ | ⟨ne, e3⟩
    · obtain ⟨q1, q2, q3, _⟩ := A.sl j _ e
      exact ⟨q1, q2, q3, r⟩
    · refine (A.sl j s e3).keep (Ex.refl S) (fun _ _ h => .inl h) fun q w ha hw => ?_
      rw [upd_ne fun z => ne (owns_inj A.nd e3 e ha (by rw [z]; rfl))]
      exact hw
/-- an owned object seen otherwise -/
theorem At.see (A : At K n f S H σ Γ) {i : Nat} {l : Bool} {p : Addr} {o o' : Ob} (e : Γ[i]? = some (.own l p o)) (r : ObRep K S H p o → ObRep K S H p o') : At K n f S H σ (Γ.set i (.own l p o')) where
  sub := A.sub
  ex := A.ex
  keep := A.keep
  fresh := A.fresh
  stay := A.stay
  len := A.len
  nd := by
    rw [owns_reset (s' := .own l p o') e rfl]
    exact A.nd
  sys := A.sys
  sl := fun j s e2 => by
    rcases get_set e2 with ⟨rfl, rfl⟩ | ⟨ne, e3⟩
    · obtain ⟨q1, q2, q3, q4⟩ := A.sl j _ e
      exact ⟨q1, q2, q3, r q4⟩
    · exact A.sl j s e3
/-- what an object holds, as data -/
def Ob.data : Ob → Option D
  | .lst ds => some (.lst ds)
  | .dct ks ds => some (.dct ks ds)
  | .ins c ns ds => some (.ins c ns ds)
  | .pen _ => none
theorem ObRep.data {p : Addr} : ∀ {o : Ob} {d : D}, o.data = some d → ObRep K S H p o → ∃ u, H p = some u ∧ ∀ S', Ex S S' → S' p = some u → Rep K S' d (.ref p)
  | .lst ds, d, e, ⟨vs, h, r⟩ => by
    cases e
    exact ⟨_, h, fun S' x q => ⟨p, vs, rfl, q, r.mono x⟩⟩
  | .dct ks ds, d, e, ⟨vs, h, q', r⟩ => by
    cases e
    exact ⟨_, h, fun S' x q => ⟨p, vs, rfl, q, q', r.mono x⟩⟩
  | .ins c ns ds, d, e, ⟨dx, vs, h, q', r⟩ => by
    cases e
    exact ⟨_, h, fun S' x q => ⟨p, dx, vs, rfl, q, q', r.mono x⟩⟩
  | .pen _, d, e, _ => by cases e
/-- a new object of one's own comes to rest -/
theorem At.rest (A : At K n f S H σ Γ) {p : Addr} {u : HO} (h1 : p ∉ owns Γ) (h2 : S p = none) (h3 : f.H p = none) (hp : H p = some u) : At K n f (upd S p u) H σ Γ where
  sub := A.sub.upd (A.sub.none h2)
  ex := fun a o h => by
    by_cases e : a = p
    · subst e
      rw [upd_same] at h
      rw [hp]
      exact h
    · rw [upd_ne e] at h
      exact A.ex a o h
  keep := A.keep
  fresh := fun a o h => by
    by_cases e : a = p
    · subst e
      exact .inr h3
    · rw [upd_ne e] at h
      exact A.fresh a o h
  stay := A.stay
  len := A.len
  nd := A.nd
  sys := A.sys
  sl := fun i s e => by
    have q := A.sl i s e
    have ne : ∀ b, s.addr = some b → b ≠ p := fun b hb z => h1 (by rw [← z]; exact of_owns e hb)
    have x : Ex S (upd S p u) := (Ex.refl S).upd h2
    cases s with
    | no => exact True.intro
    | dat d =>
      obtain ⟨v, k1, k2⟩ := q
      exact ⟨v, k1, k2.mono x d⟩
    | own l b o =>
      obtain ⟨k0, k1, kw, k2⟩ := q
      exact ⟨k0, by rw [upd_ne (ne b rfl)]; exact k1, kw, k2.mono x fun _ z => z⟩
    | gh l b o =>
      obtain ⟨k1, kw, k2⟩ := q
      exact ⟨by rw [upd_ne (ne b rfl)]; exact k1, kw, k2.mono x fun _ z => z⟩
end
end Z
/-! Layer Z, part B: what a reading does to data. -/
namespace Z
open PySem L2
/-- an exception on its way: its class, and the fields of its own dict, where it has one -/
inductive Exn where
  | bare (c : Str) | fld (c : Str) (ns : List Str) (ds : List D)
def ExcAt (K : PySem.W.Frag) (S : Hp) : Exn → Value → Option Addr → Prop
  | .bare c, cv, d => cv = .ref (He.ga K c) ∧ d = none
  | .fld c ns ds, cv, d => cv = .ref (He.ga K c) ∧ ∃ a fs, d = some a ∧ S a = some (.xd fs) ∧ fs.map (·.1) = ns ∧ RepL K S ds (fs.map (·.2))
/-- where one stands: the written part, the number of slots, the wish for exceptions and what it asks -/
structure Zx where
  K : PySem.W.Frag
  n : Nat
  W : WX
  Xe : Exn → List Sl → Prop
abbrev AtZ (z : Zx) := At z.K z.n
def XOk (z : Zx) (f : Fm) : Prop := ∀ x S H σ Γ c d, z.Xe x Γ → AtZ z f S H σ Γ → ExcAt z.K S x c d → z.W c d σ H
/-- a result: data, or a new object that may still change -/
inductive Rs where
  | dat (d : D) | own (p : Addr) (o : Ob)
/-- behind an expression -/
abbrev KD (z : Zx) (f : Fm) (S : Hp) (σ : St) (Φ : D → List Sl → Prop) (Q : VK) : Prop := ∀ v S2 H2 d Γ2, Φ d Γ2 → AtZ z f S2 H2 σ Γ2 → Ex S S2 → Rep z.K S2 d v → Q v H2
abbrev KO (z : Zx) (f : Fm) (S : Hp) (σ : St) (Φ : Ob → List Sl → Prop) (Q : VK) : Prop := ∀ p S2 H2 o Γ2, Φ o Γ2 → AtZ z f S2 H2 σ Γ2 → Ex S S2 → p ∉ owns Γ2 → S2 p = none → f.H p = none → ObRep z.K S2 H2 p o → Q (.ref p) H2
def EG (z : Zx) (t : TE) (Γ : List Sl) (Φ : D → List Sl → Prop) : Prop := ∀ f, XOk z f → ∀ S H σ (Q : VK), AtZ z f S H σ Γ → KD z f S σ Φ Q → t σ H Q
/-- its value is a new object -/
def EO (z : Zx) (t : TE) (Γ : List Sl) (Φ : Ob → List Sl → Prop) : Prop := ∀ f, XOk z f → ∀ S H σ (Q : VK), AtZ z f S H σ Γ → KO z f S σ Φ Q → t σ H Q
def TGz (z : Zx) (t : TT) (Γ : List Sl) (Φ : Bool → List Sl → Prop) : Prop := ∀ f, XOk z f → ∀ S H σ (Q : Bool → Hp → Prop), AtZ z f S H σ Γ → (∀ b S2 H2 Γ2, Φ b Γ2 → AtZ z f S2 H2 σ Γ2 → Ex S S2 → Q b H2) → t σ H Q
/-- arguments: data, or an object that may change, by its slot -/
inductive Ar where
  | dat (d : D) | own (i : Nat) (l : Bool) (p : Addr)
def ArOk (z : Zx) (S : Hp) (Γ : List Sl) : Ar → V → Prop
  | .dat d, v => Rep z.K S d v
  | .own i l p, v => v = .ref p ∧ ∃ o, Γ[i]? = some (.own l p o)
def ArsOk (z : Zx) (S : Hp) (Γ : List Sl) : List Ar → List V → Prop
  | [], vs => vs = []
  | a :: as, vs => ∃ v r, vs = v :: r ∧ ArOk z S Γ a v ∧ ArsOk z S Γ as r
def AGz (z : Zx) (t : TA) (Γ : List Sl) (Φ : List Ar → List Sl → Prop) : Prop := ∀ f, XOk z f → ∀ S H σ (Q : List V → Hp → Prop), AtZ z f S H σ Γ →
  (∀ vs S2 H2 as Γ2, Φ as Γ2 → AtZ z f S2 H2 σ Γ2 → Ex S S2 → ArsOk z S2 Γ2 as vs → Q vs H2) → t σ H Q
/-- operations on values -/
def OG (z : Zx) (r : R2) (a b : D) (Γ : List Sl) (Φ : D → List Sl → Prop) : Prop := ∀ f, XOk z f → ∀ S H σ v u (Q : VK), AtZ z f S H σ Γ → Rep z.K S a v → Rep z.K S b u → KD z f S σ Φ Q → r v u H Q
def UG (z : Zx) (r : V → Hp → VK → Prop) (a : D) (Γ : List Sl) (Φ : D → List Sl → Prop) : Prop := ∀ f, XOk z f → ∀ S H σ v (Q : VK), AtZ z f S H σ Γ → Rep z.K S a v → KD z f S σ Φ Q → r v H Q
def CG (z : Zx) (r : List V → Hp → VK → Prop) (as : List Ar) (Γ : List Sl) (Φ : D → List Sl → Prop) : Prop := ∀ f, XOk z f → ∀ S H σ vs (Q : VK), AtZ z f S H σ Γ → ArsOk z S Γ as vs → KD z f S σ Φ Q → r vs H Q
def CO (z : Zx) (r : List V → Hp → VK → Prop) (as : List Ar) (Γ : List Sl) (Φ : Ob → List Sl → Prop) : Prop := ∀ f, XOk z f → ∀ S H σ vs (Q : VK), AtZ z f S H σ Γ → ArsOk z S Γ as vs → KO z f S σ Φ Q → r vs H Q
/-- what is wanted behind a statement -/
structure GE where
  nx : List Sl → Prop
  rt : Rs → List Sl → Prop
  bk : List Sl → Prop := fun _ => False
  ct : List Sl → Prop := fun _ => False
structure EndsOk (z : Zx) (f : Fm) (D : Ends) (G : GE) : Prop where
  nx : ∀ S H σ Γ, G.nx Γ → AtZ z f S H σ Γ → D.nx σ H
  rt : ∀ S H σ Γ d v, G.rt (.dat d) Γ → AtZ z f S H σ Γ → Rep z.K S d v → D.rt v H
  rto : ∀ S H σ Γ p o, G.rt (.own p o) Γ → AtZ z f S H σ Γ → p ∉ owns Γ → S p = none → f.H p = none → ObRep z.K S H p o → D.rt (.ref p) H
  bk : ∀ S H σ Γ, G.bk Γ → AtZ z f S H σ Γ → D.bk σ H
  ct : ∀ S H σ Γ, G.ct Γ → AtZ z f S H σ Γ → D.ct σ H
def SG (z : Zx) (t : TS) (Γ : List Sl) (G : GE) : Prop := ∀ f, XOk z f → ∀ S H σ D, AtZ z f S H σ Γ → EndsOk z f D G → t D σ H

section
variable {z : Zx} {Γ : List Sl} {Φ : D → List Sl → Prop} {Ψ : Ob → List Sl → Prop} {ta tb tc te : TE} {t u : TT}
theorem KD.refl {f : Fm} {S H : Hp} {σ : St} {Q : VK} {d : D} {v : V} (k : KD z f S σ Φ Q) (h : Φ d Γ) (A : AtZ z f S H σ Γ) (r : Rep z.K S d v) : Q v H := k v S H d Γ h A (Ex.refl S) r

/-! ### names, constants -/
theorem eg_var {i : Nat} {d : D} (e : Γ[i]? = some (.dat d)) (h : Φ d Γ) : EG z (tVar i) Γ Φ := fun f _ S H σ Q A k => by
  obtain ⟨v, e1, r⟩ := A.sl i _ e
  exact ⟨v, e1, k.refl h A r⟩
theorem eg_c {v : V} {d : D} (r : ∀ S, Rep z.K S d v) (h : Φ d Γ) : EG z (tC v) Γ Φ := fun f _ S H σ Q A k => k.refl h A (r S)
theorem eg_i {i : Int} (h : Φ (.int i) Γ) : EG z (tC (.int i)) Γ Φ := eg_c (d := .int i) (fun _ => rfl) h
theorem eg_s {i : Str} (h : Φ (.str i) Γ) : EG z (tC (.str i)) Γ Φ := eg_c (d := .str i) (fun _ => rfl) h
theorem eg_b {i : Bool} (h : Φ (.bl i) Γ) : EG z (tC (.bl i)) Γ Φ := eg_c (d := .bl i) (fun _ => rfl) h
theorem eg_n (h : Φ .non Γ) : EG z (tC .non) Γ Φ := eg_c (d := .non) (fun _ => rfl) h
theorem eg_raw {v : V} (h : Φ (.raw v) Γ) : EG z (tC v) Γ Φ := eg_c (d := .raw v) (fun _ => rfl) h

/-! ### operators -/
theorem eg_op {r : R2} (h : EG z ta Γ fun a Γ1 => EG z tb Γ1 fun b Γ2 => OG z r a b Γ2 Φ) : EG z (tOp r ta tb) Γ Φ := fun f X S H σ Q A k =>
  h f X S H σ _ A fun v S1 H1 a Γ1 h1 A1 e1 r1 => h1 f X S1 H1 σ _ A1 fun u S2 H2 b Γ2 h2 A2 e2 r2 =>
    h2 f X S2 H2 σ v u Q A2 (r1.mono e2 a) r2 fun w S3 H3 d Γ3 h3 A3 e3 r3 => k w S3 H3 d Γ3 h3 A3 ((e1.trans e2).trans e3) r3
theorem eg_un {r : V → Hp → VK → Prop} (h : EG z ta Γ fun a Γ1 => UG z r a Γ1 Φ) : EG z (tUn r ta) Γ Φ := fun f X S H σ Q A k =>
  h f X S H σ _ A fun v S1 H1 a Γ1 h1 A1 e1 r1 => h1 f X S1 H1 σ v Q A1 r1 fun w S3 H3 d Γ3 h3 A3 e3 r3 => k w S3 H3 d Γ3 h3 A3 (e1.trans e3) r3
theorem og_I0 {g : Int → Int → V} {i j : Int} {d : D} (r : ∀ S, Rep z.K S d (g i j)) (h : Φ d Γ) : OG z (rI0 g) (.int i) (.int j) Γ Φ := fun f _ S H σ v u Q A a b k => ⟨i, j, a, b, k.refl h A (r S)⟩
theorem og_I0i {g : Int → Int → Int} {i j : Int} (h : Φ (.int (g i j)) Γ) : OG z (rI0 fun i j => .int (g i j)) (.int i) (.int j) Γ Φ := og_I0 (d := .int (g i j)) (fun _ => rfl) h
theorem og_I0b {g : Int → Int → Bool} {i j : Int} (h : Φ (.bl (g i j)) Γ) : OG z (rI0 fun i j => .bl (g i j)) (.int i) (.int j) Γ Φ := og_I0 (d := .bl (g i j)) (fun _ => rfl) h
theorem og_I {C : Int → Int → Prop} {g : Int → Int → Int} {i j : Int} (c : C i j) (h : Φ (.int (g i j)) Γ) : OG z (rI C fun i j => .int (g i j)) (.int i) (.int j) Γ Φ := fun f _ S H σ v u Q A a b k => ⟨i, j, a, b, c, k.refl h A rfl⟩
theorem ug_U {g : Int → Int} {i : Int} (h : Φ (.int (g i)) Γ) : UG z (rU fun i => .int (g i)) (.int i) Γ Φ := fun f _ S H σ v Q A a k => ⟨i, a, k.refl h A rfl⟩
/-- flat data -/
def D.flat : D → Option V
  | .non => some .non
  | .bl b => some (.bl b)
  | .int i => some (.int i)
  | .str x => some (.str x)
  | _ => none
theorem Rep.flat {K : PySem.W.Frag} {S : Hp} : ∀ {d : D} {v w : V}, d.flat = some w → Rep K S d v → v = w
  | .non, v, w, e, r => by cases e; exact r
  | .bl _, v, w, e, r => by cases e; exact r
  | .int _, v, w, e, r => by cases e; exact r
  | .str _, v, w, e, r => by cases e; exact r
  | .lst _, v, w, e, r => by cases e
  | .tup _, v, w, e, r => by cases e
  | .dct _ _, v, w, e, r => by cases e
  | .ins _ _ _, v, w, e, r => by cases e
  | .raw _, v, w, e, r => by cases e
  | .fro _, v, w, e, r => by cases e
  | .exc _, v, w, e, r => by cases e
  | .exf _ _ _, v, w, e, r => by cases e
theorem og_eq {a b : D} {x y : V} (ha : a.flat = some x) (hb : b.flat = some y) (hs : scal x y = true) (h : Φ (.bl (decide (x = y))) Γ) : OG z rEq a b Γ Φ := fun f _ S H σ v u Q A p q k => by
  rw [p.flat ha, q.flat hb]
  exact ⟨hs, k.refl h A rfl⟩
theorem og_ne {a b : D} {x y : V} (ha : a.flat = some x) (hb : b.flat = some y) (hs : scal x y = true) (h : Φ (.bl (!decide (x = y))) Γ) : OG z rNe a b Γ Φ := fun f _ S H σ v u Q A p q k => by
  rw [p.flat ha, q.flat hb]
  exact ⟨hs, k.refl h A rfl⟩
theorem og_eqI {i j : Int} (h : Φ (.bl (decide (i = j))) Γ) : OG z rEq (.int i) (.int j) Γ Φ := og_eq rfl rfl rfl (by
  have e : decide (V.int i = V.int j) = decide (i = j) := by simp
  rw [e]
  exact h)
theorem og_neI {i j : Int} (h : Φ (.bl (!decide (i = j))) Γ) : OG z rNe (.int i) (.int j) Γ Φ := og_ne rfl rfl rfl (by
  have e : decide (V.int i = V.int j) = decide (i = j) := by simp
  rw [e]
  exact h)
theorem og_eqS {i j : Str} (h : Φ (.bl (decide (i = j))) Γ) : OG z rEq (.str i) (.str j) Γ Φ := og_eq rfl rfl rfl (by
  have e : decide (V.str i = V.str j) = decide (i = j) := by simp
  rw [e]
  exact h)
theorem og_neS {i j : Str} (h : Φ (.bl (!decide (i = j))) Γ) : OG z rNe (.str i) (.str j) Γ Φ := og_ne rfl rfl rfl (by
  have e : decide (V.str i = V.str j) = decide (i = j) := by simp
  rw [e]
  exact h)
theorem og_eqB {i j : Bool} (h : Φ (.bl (decide (i = j))) Γ) : OG z rEq (.bl i) (.bl j) Γ Φ := og_eq rfl rfl rfl (by
  have e : decide (V.bl i = V.bl j) = decide (i = j) := by simp
  rw [e]
  exact h)
theorem og_neB {i j : Bool} (h : Φ (.bl (!decide (i = j))) Γ) : OG z rNe (.bl i) (.bl j) Γ Φ := og_ne rfl rfl rfl (by
  have e : decide (V.bl i = V.bl j) = decide (i = j) := by simp
  rw [e]
  exact h)
/-- is it None -/
def D.isNon : D → Bool
  | .non => true
  | .raw v => decide (v = .non)
  | _ => false
theorem Rep.isNon {K : PySem.W.Frag} {S : Hp} : ∀ {d : D} {v : V}, Rep K S d v → decide (v = .non) = d.isNon
  | .non, v, r => by cases (show v = _ from r); rfl
  | .bl _, v, r => by cases (show v = _ from r); rfl
  | .int _, v, r => by cases (show v = _ from r); rfl
  | .str _, v, r => by cases (show v = _ from r); rfl
  | .raw _, v, r => by cases (show v = _ from r); rfl
  | .lst _, v, r => by obtain ⟨a, vs, rfl, _⟩ := r; rfl
  | .tup _, v, r => by obtain ⟨a, vs, rfl, _⟩ := r; rfl
  | .fro _, v, r => by obtain ⟨a, vs, rfl, _⟩ := r; rfl
  | .exc _, v, r => by obtain ⟨a, rfl, _⟩ := r; rfl
  | .exf _ _ _, v, r => by obtain ⟨a, b, fs, rfl, _⟩ := r; rfl
  | .dct _ _, v, r => by obtain ⟨a, vs, rfl, _⟩ := r; rfl
  | .ins _ _ _, v, r => by obtain ⟨a, dx, vs, rfl, _⟩ := r; rfl
theorem og_isN {a : D} (h : Φ (.bl a.isNon) Γ) : OG z (fun x y H Q => y = .non ∧ Q (.bl (decide (x = .non))) H) a .non Γ Φ := fun f _ S H σ v u Q A p q k => ⟨q, by
  rw [p.isNon]
  exact k.refl h A rfl⟩
theorem og_notN {a : D} (h : Φ (.bl (!a.isNon)) Γ) : OG z (fun x y H Q => y = .non ∧ Q (.bl (!decide (x = .non))) H) a .non Γ Φ := fun f _ S H σ v u Q A p q k => ⟨q, by
  rw [p.isNon]
  exact k.refl h A rfl⟩
theorem eg_isN {Φ : D → List Sl → Prop} (h : EG z ta Γ fun a Γ1 => Φ (.bl a.isNon) Γ1) : EG z (tIsN ta) Γ Φ := fun f X S H σ Q A k =>
  h f X S H σ _ A fun v S1 H1 a Γ1 h1 A1 e1 r1 => by
    rw [r1.isNon]
    exact k _ S1 H1 _ Γ1 h1 A1 e1 rfl
theorem eg_notN {Φ : D → List Sl → Prop} (h : EG z ta Γ fun a Γ1 => Φ (.bl (!a.isNon)) Γ1) : EG z (tNotN ta) Γ Φ := fun f X S H σ Q A k =>
  h f X S H σ _ A fun v S1 H1 a Γ1 h1 A1 e1 r1 => by
    rw [r1.isNon]
    exact k _ S1 H1 _ Γ1 h1 A1 e1 rfl

/-! ### tests -/
theorem tg_test {Φ : Bool → List Sl → Prop} (h : EG z te Γ fun d Γ1 => ∃ b, d = .bl b ∧ Φ b Γ1) : TGz z (tTest te) Γ Φ := fun f X S H σ Q A k =>
  h f X S H σ _ A fun v S1 H1 d Γ1 ⟨b, e, h1⟩ A1 e1 r1 => by
    subst e
    exact ⟨b, r1, k b S1 H1 Γ1 h1 A1 e1⟩
theorem tg_B {Φ : Bool → List Sl → Prop} (h : EG z te Γ fun d Γ1 => ∃ b, d = .bl b ∧ Φ b Γ1) : TGz z (tB te) Γ Φ := fun f X S H σ Q A k =>
  h f X S H σ _ A fun v S1 H1 d Γ1 ⟨b, e, h1⟩ A1 e1 r1 => by
    subst e
    exact ⟨b, r1, k b S1 H1 Γ1 h1 A1 e1⟩
theorem tg_and {Φ : Bool → List Sl → Prop} (h : TGz z t Γ fun b Γ1 => (b = true → TGz z u Γ1 Φ) ∧ (b = false → Φ false Γ1)) : TGz z (tAnd t u) Γ Φ := fun f X S H σ Q A k =>
  h f X S H σ _ A fun b S1 H1 Γ1 ⟨h1, h2⟩ A1 e1 => by
    cases b with
    | true => exact h1 rfl f X S1 H1 σ Q A1 fun b S2 H2 Γ2 h3 A2 e2 => k b S2 H2 Γ2 h3 A2 (e1.trans e2)
    | false => exact k false S1 H1 Γ1 (h2 rfl) A1 e1
theorem tg_or {Φ : Bool → List Sl → Prop} (h : TGz z t Γ fun b Γ1 => (b = false → TGz z u Γ1 Φ) ∧ (b = true → Φ true Γ1)) : TGz z (tOr t u) Γ Φ := fun f X S H σ Q A k =>
  h f X S H σ _ A fun b S1 H1 Γ1 ⟨h1, h2⟩ A1 e1 => by
    cases b with
    | true => exact k true S1 H1 Γ1 (h2 rfl) A1 e1
    | false => exact h1 rfl f X S1 H1 σ Q A1 fun b S2 H2 Γ2 h3 A2 e2 => k b S2 H2 Γ2 h3 A2 (e1.trans e2)
theorem tg_not {Φ : Bool → List Sl → Prop} (h : TGz z t Γ fun b Γ1 => Φ (!b) Γ1) : TGz z (tNot t) Γ Φ := fun f X S H σ Q A k =>
  h f X S H σ _ A fun b S1 H1 Γ1 h1 A1 e1 => k _ S1 H1 Γ1 h1 A1 e1
theorem eg_and (h : EG z ta Γ fun d Γ1 => ∃ b, d = .bl b ∧ (b = true → EG z tb Γ1 Φ) ∧ (b = false → Φ (.bl false) Γ1)) : EG z (tAndV ta tb) Γ Φ := fun f X S H σ Q A k =>
  h f X S H σ _ A fun v S1 H1 d Γ1 ⟨b, e, h1, h2⟩ A1 e1 r1 => by
    subst e
    refine ⟨b, r1, ?_⟩
    cases b with
    | true => exact h1 rfl f X S1 H1 σ Q A1 fun v S2 H2 d Γ2 h3 A2 e2 r2 => k v S2 H2 d Γ2 h3 A2 (e1.trans e2) r2
    | false => exact k _ S1 H1 _ Γ1 (h2 rfl) A1 e1 rfl
theorem eg_or (h : EG z ta Γ fun d Γ1 => ∃ b, d = .bl b ∧ (b = false → EG z tb Γ1 Φ) ∧ (b = true → Φ (.bl true) Γ1)) : EG z (tOrV ta tb) Γ Φ := fun f X S H σ Q A k =>
  h f X S H σ _ A fun v S1 H1 d Γ1 ⟨b, e, h1, h2⟩ A1 e1 r1 => by
    subst e
    refine ⟨b, r1, ?_⟩
    cases b with
    | true => exact k _ S1 H1 _ Γ1 (h2 rfl) A1 e1 rfl
    | false => exact h1 rfl f X S1 H1 σ Q A1 fun v S2 H2 d Γ2 h3 A2 e2 r2 => k v S2 H2 d Γ2 h3 A2 (e1.trans e2) r2
theorem eg_not (h : EG z ta Γ fun d Γ1 => ∃ b, d = .bl b ∧ Φ (.bl (!b)) Γ1) : EG z (tNotV ta) Γ Φ := fun f X S H σ Q A k =>
  h f X S H σ _ A fun v S1 H1 d Γ1 ⟨b, e, h1⟩ A1 e1 r1 => by
    subst e
    exact ⟨b, r1, k _ S1 H1 _ Γ1 h1 A1 e1 rfl⟩
theorem eg_if (h : TGz z t Γ fun b Γ1 => (b = true → EG z ta Γ1 Φ) ∧ (b = false → EG z tb Γ1 Φ)) : EG z (tIf t ta tb) Γ Φ := fun f X S H σ Q A k =>
  h f X S H σ _ A fun b S1 H1 Γ1 ⟨h1, h2⟩ A1 e1 => by
    cases b with
    | true => exact h1 rfl f X S1 H1 σ Q A1 fun v S2 H2 d Γ2 h3 A2 e2 r2 => k v S2 H2 d Γ2 h3 A2 (e1.trans e2) r2
    | false => exact h2 rfl f X S1 H1 σ Q A1 fun v S2 H2 d Γ2 h3 A2 e2 r2 => k v S2 H2 d Γ2 h3 A2 (e1.trans e2) r2
/-- a chain of two comparisons -/
theorem eg_chain {r r' : R2} (h : EG z ta Γ fun a Γ1 => EG z tb Γ1 fun b Γ2 => OG z r a b Γ2 fun d Γ3 => ∃ k, d = .bl k ∧ (k = true → EG z tc Γ3 fun c Γ4 => OG z r' b c Γ4 Φ) ∧ (k = false → Φ (.bl false) Γ3)) : EG z (tChain r r' ta tb tc) Γ Φ := fun f X S H σ Q A k =>
  h f X S H σ _ A fun v S1 H1 a Γ1 h1 A1 e1 r1 => h1 f X S1 H1 σ _ A1 fun u S2 H2 b Γ2 h2 A2 e2 r2 =>
    h2 f X S2 H2 σ v u _ A2 (r1.mono e2 a) r2 fun w S3 H3 d Γ3 ⟨b', ed, h3, h4⟩ A3 e3 r3 => by
      subst ed
      refine ⟨b', r3, ?_⟩
      have e13 := (e1.trans e2).trans e3
      cases b' with
      | true =>
        show tc σ H3 _
        exact h3 rfl f X S3 H3 σ _ A3 fun x S4 H4 c Γ4 h5 A4 e4 r4 => h5 f X S4 H4 σ u x Q A4 (r2.mono (e3.trans e4) b) r4 fun w S5 H5 d Γ5 h6 A5 e5 r5 => k w S5 H5 d Γ5 h6 A5 ((e13.trans e4).trans e5) r5
      | false =>
        show Q (.bl false) H3
        exact k _ S3 H3 _ Γ3 (h4 rfl) A3 e13 rfl
end
end Z
/-! Layer Z, part C: defs and their calls, where it is known that no repr runs around. -/
namespace Z
open PySem PySem.Spec PyProof.Rows L2
structure RoomG (k : Nat) (A : Around) : Prop where
  r : Room k A
  g : A.guards = some []
theorem RoomG.mono {j k : Nat} {A : Around} (x : RoomG k A) (h : j ≤ k) : RoomG j A := ⟨x.r.mono h, x.g⟩
theorem RoomG.deeper {k : Nat} {A : Around} (x : RoomG (k + 1) A) (env : Env) : RoomG k (A.deeper env) := ⟨x.r.deeper env, x.g⟩
theorem RoomG.make {k : Nat} {A : Around} (x : RoomG (k + 1) A) (C : Addr) (us : List Value) (kw : List (Str × Value)) :
    RoomG k (A.under (.builtin "type.__call__" ⟨.ref C :: us, kw⟩)) := ⟨x.r.make C us kw, by
  first
    | exact x.g
    | (have q := x.g
       simpa [Around.under, Code.guards, Code.isGuard, guardIds, pushGuards] using q)⟩
abbrev CZ (P : Program) (w : World) : CXT := L2.CX P w
/-- a def keeps its promise -/
structure FnG (P : Program) (w : World) (K : PySem.W.Frag) (mg : Str → Option Value) (base : Heap) (k : Nat) (f : Addr) (fd : FuncData) (ps : List Str) (sp : Sp) : Prop where
  len : ∀ vs H Q E, sp vs H Q E → vs.length = ps.length
  run : ∀ (A : Around) (outer : List Env) (s : Shared) (H : Hp) (args : Args) (us : List Value) (vs : List V) (Q : VK) (E : XK), RoomG k A → Env0 P w K mg base A outer s H →
    BindsTo s fd args (ps.zip us) → Vals vs us → sp vs H Q E → codeAny (model P w) A (.call (.ref f) args) (CR (CZ P w) outer P w H s Q E) s
theorem FnG.mono {P : Program} {w : World} {K : PySem.W.Frag} {mg : Str → Option Value} {base : Heap} {j k : Nat} {f : Addr} {fd : FuncData} {ps : List Str} {sp : Sp}
    (F : FnG P w K mg base j f fd ps sp) (h : j ≤ k) : FnG P w K mg base k f fd ps sp :=
  ⟨F.len, fun A outer s H args us vs Q E hr => F.run A outer s H args us vs Q E (hr.mono h)⟩
theorem FnG.imp {P : Program} {w : World} {K : PySem.W.Frag} {mg : Str → Option Value} {base : Heap} {k : Nat} {f : Addr} {fd : FuncData} {ps : List Str} {sp sp' : Sp}
    (F : FnG P w K mg base k f fd ps sp) (h : ∀ vs H Q E, sp' vs H Q E → sp vs H Q E) : FnG P w K mg base k f fd ps sp' :=
  ⟨fun vs H Q E q => F.len vs H Q E (h _ _ _ _ q), fun A outer s H args us vs Q E hr he hb hv hs => F.run A outer s H args us vs Q E hr he hb hv (h _ _ _ _ hs)⟩

section
variable {P : Program} {w : World} {K : PySem.W.Frag} {mg : Str → Option Value} {base : Heap} {k : Nat} {f : Addr}
/-- a def of the text by its body -/
theorem fnG_of {name qual : Str} {params : Arguments} {body : List Stmt} {scope : Scope} {dV kV doc pm cdv ct oc : Value} {an od : Option Addr} {osl : Array (Option Value)} {N ps : List Str} {sp : Sp}
    (lk : K.lookup f = some ⟨oc, od, .func (PySem.W.fnOf name qual params body scope dV kV doc pm an cdv ct), osl⟩) (hcd : PySem.W.codeIn K cdv qual = true) (S : FnScope N ps scope)
    (len : ∀ vs H Q E, sp vs H Q E → vs.length = ps.length)
    (hbody : ∀ (A : Around) (outer : List Env) (s : Shared) (H : Hp) (vs : List V) (Q : VK) (E : XK), RoomG k (A.deeper (envOfC qual scope s.heap.objs.size f cdv)) → sp vs H Q E →
      ∃ t, PSs (cxOf (CZ P w) P w K mg base N qual scope f cdv A outer s H E) body t ∧ t { nx := fun _ H' => Q .non H', rt := Q } (start N vs) H) :
    FnG P w K mg base (k + 1) f (PySem.W.fnOf name qual params body scope dV kV doc pm an cdv ct) ps sp := by
  refine ⟨len, fun A outer s H args us vs Q E hr e0 hb rel hsp => ?_⟩
  -- the library's own rule, at this one entry: the promise is asked of this room alone
  have hl := len _ _ _ _ hsp
  have inH : K.In s.heap := e0.mod.kin.keeps fun b o e => (e0.bs b o e).1
  have noL : s.heap.NoLimit := e0.mod.nolimit.keeps fun b o e => (e0.bs b o e).1
  refine codeAny_call_function hr.r.depth (inH _ _ lk) rfl S.co S.gen rfl (PySem.W.codeRec_of inH hcd) (hb _ _ _ _ ?_)
  have par : ∀ y ∈ ps.zip us, scope.names.lookup y.1 = some .local ∨ (scope.names.lookup y.1 = some .cell ∧ ((cellsFrom (s.heap.objs.size + 1) scope.names []).lookup y.1).isSome = true) := by
    rintro ⟨nm, val⟩ hy
    cases S.par nm (List.of_mem_zip hy).1 with
    | inl q => exact Or.inl q
    | inr q => exact Or.inr ⟨q, PySem.W.cellsFrom_some _ _ _ (Or.inl q)⟩
  refine wpAny_newFunctionEnv_cells S.kind par fun env he s1 x => ?_
  subst he
  refine ⟨noL.keeps x.toInCall.keep, codeAny_func ?_⟩
  obtain ⟨t, ht, hq⟩ := hbody A outer s H vs Q E (hr.deeper _) hsp
  have J : Inv (cxOf (CZ P w) P w K mg base N qual scope f cdv A outer s H E) [] (start N vs) H s1 := inv_start S hr.r.hd e0 hl rel x
  refine wpAny_mono (ht.run [] s1 (start N vs) H _ J hq) (fun fl s' got => ?_) fun _ _ z => z
  match fl, got with
  | .ret u, ⟨v, σ', H', I', rv, q⟩ => exact ⟨v, H', I'.os, I'.bare, I'.base, I'.hok, rv, q⟩
  | .next, ⟨σ', H', I', q⟩ => exact ⟨V.non, H', I'.os, I'.bare, I'.base, I'.hok, rfl, q⟩
  | .brk, ⟨_, _, _, q⟩ => exact q.elim
  | .cont, ⟨_, _, _, q⟩ => exact q.elim
theorem FunD_okG {x qual : Str} {params : Arguments} {body : List Stmt} {scope : Scope} {dvs : List V} {kws : List (Str × V)} {fd : FuncData} {N ps : List Str} {sp : Sp}
    (F : FunD K x qual params body scope dvs kws f fd) (S : FnScope N ps scope) (len : ∀ vs H Q E, sp vs H Q E → vs.length = ps.length)
    (hbody : ∀ (cdv : Value) (A : Around) (outer : List Env) (s : Shared) (H : Hp) (vs : List V) (Q : VK) (E : XK), RoomG k (A.deeper (envOfC qual scope s.heap.objs.size f cdv)) → sp vs H Q E →
      ∃ t, PSs (cxOf (CZ P w) P w K mg base N qual scope f cdv A outer s H E) body t ∧ t { nx := fun _ H' => Q .non H', rt := Q } (start N vs) H) :
    FnG P w K mg base (k + 1) f fd ps sp := by
  obtain ⟨oc, od, dV, kV, doc, pm, an, cdv, ct, osl, rfl, lk, hcd, _, _⟩ := F.ex
  exact fnG_of lk hcd S len fun A outer s H vs Q E hr hsp => hbody cdv A outer s H vs Q E hr hsp
end

section
variable {X : Cx} {k : Nat} {f C : Addr} {fd : FuncData} {ps : List Str} {sp : Sp} {dvs : List V} {ds : List Value} {E : L2.St → XK} {x m : Str} {p pos apos : Pos} {e o : Expr} {es : List Expr} {ta : TE} {t : TA}
abbrev FnX (X : Cx) (k : Nat) (f : Addr) (fd : FuncData) (ps : List Str) (sp : Sp) : Prop := FnG X.prog X.w X.K X.mg X.base k f fd ps sp
/-- what a callee lets out is wished for, at the slots σ -/
abbrev LetsS (X : Cx) (E : L2.St → XK) : Prop := ∀ σ, PassesAt (CZ X.prog X.w) X σ (E σ)
theorem lets_none : LetsS X fun _ => E0 := fun _ _ _ _ _ _ _ h => by
  obtain ⟨_, _, _, _, _, _, _, _, _, _, _, _, q⟩ := h
  exact q.elim
theorem lets_W {W : WX} (tk : Takes X W) : LetsS X (WE W) := fun σ => passAt tk σ
theorem runG {pins : List (Addr × Obj)} {σ : L2.St} {H : Hp} {s : Shared} {Q : VK} {us : List Value} {vs : List V} (F : FnX X k f fd ps sp) (hr : RoomG k X.A) (hb : Binds X.K fd ps ds) (hd : Vals dvs ds)
    (hx : LetsS X E) (I : Inv X pins σ H s) (r : Vals vs us) (h : sp (vs ++ dvs) H Q (E σ)) : wpAny (model X.prog X.w) X.A (call (.ref f) us) (EP X pins σ Q) X.xe s := by
  have both : Vals (vs ++ dvs) (us ++ ds) := r.append hd
  have many : (us ++ ds).length = ps.length := both.length.symm.trans (F.len _ _ _ _ h)
  refine wpAny_call (codeAny_mono (F.run X.A X.stack s H ⟨us, []⟩ (us ++ ds) (vs ++ dvs) Q (E σ) hr I.env0 (hb s us I.kIn many) both h) fun res s' got => ?_)
  match res, got with
  | .error ex, q => exact hx σ pins H s ex s' I q
  | .ok (.ret u), q => exact I.after q
  | .ok .next, q => exact q.elim
  | .ok .brk, q => exact q.elim
  | .ok .cont, q => exact q.elim
def zCall (sp : Sp) (dvs : List V) (E : L2.St → XK) (t : TA) : TE := fun σ H Q => t σ H fun vs H1 => sp (vs ++ dvs) H1 Q (E σ)
theorem pz_call (F : FnX X k f fd ps sp) (hr : RoomG k X.A) (hg : Gl X x) (hm : X.mg x = some (.ref f)) (hk : PySem.W.keepIn X.K (.ref f) = true) (hb : Binds X.K fd ps ds) (hd : Vals dvs ds) (hx : LetsS X E)
    (ha : PA X (e :: es) t) (hdb : (x == ("__debug__" : Str)) = false := by decide) (he : starEach (e :: es) X.env = (false, eval e X.env) :: starEach es X.env := by rfl)
    (hpl : (backTo pos (starEach es X.env)).any (·.1) = false := by rfl) : PE X (.Call (.Name x p) (e :: es) [] pos) (zCall sp dvs E t) := by
  refine ⟨fun pins s σ H Q I h => wpAny_Call_Name_kw (ld_glob I hg hm ?_ hdb)⟩
  exact PySem.W.callWith_K (h₀ := X.base) I.ok.mod.kin hk (thn (ha.run pos pins s σ H _ I h) fun us s1 ⟨vs, H1, I1, r, q⟩ => ⟨I1.kIn, runG F hr hb hd hx I1 r q⟩) he hpl
theorem pz_call0 (F : FnX X k f fd ps sp) (hr : RoomG k X.A) (hg : Gl X x) (hm : X.mg x = some (.ref f)) (hk : PySem.W.keepIn X.K (.ref f) = true) (hb : Binds X.K fd ps ds) (hd : Vals dvs ds) (hx : LetsS X E)
    (hdb : (x == ("__debug__" : Str)) = false := by decide) : PE X (.Call (.Name x p) [] [] pos) (zCall sp dvs E tNil) := by
  refine ⟨fun pins s σ H Q I h => wpAny_Call_Name_kw (ld_glob I hg hm ?_ hdb)⟩
  exact PySem.W.callWith_K0 I.kIn hk (runG (us := []) F hr hb hd hx I .nil h)
/-- o.m(..), o an instance of the class at C -/
def zMeth (C : Addr) (m : Str) (sp : Sp) (dvs : List V) (E : L2.St → XK) (ta : TE) (t : TA) : TE := fun σ H Q => ta σ H fun x H1 => ∃ a dx fs, x = .ref a ∧ H1 a = some (.ins C dx fs) ∧ fs.lookup m = none ∧
  t σ H1 fun vs H2 => sp (x :: (vs ++ dvs)) H2 Q (E σ)
theorem pz_meth {pl : Sem Bool} (he : PE X o ta) (c : Cls X.K C) (hm : Meth X.K C m f) (F : FnX X k f fd ps sp) (hr : RoomG k X.A) (hb : Binds X.K fd ps ds) (hd : Vals dvs ds) (hx : LetsS X E) (ha : PA X (e :: es) t)
    (hst : starEach (e :: es) X.env = (false, eval e X.env) :: starEach es X.env := by rfl) (hpl : (backTo pos (starEach es X.env)).any (·.1) = false := by rfl)
    (ht : eval (.Call (.Attribute o m apos) (e :: es) [] pos) X.env = (do
        let ov ← eval o X.env
        standAt apos.atName
        let (g, first) ← holding [ov] (getMethod ov m pl)
        callWith pos g first (backTo pos (starEach (e :: es) X.env)) (backToKw pos (keywordEach [] X.env))) := by rfl) :
    PE X (.Call (.Attribute o m apos) (e :: es) [] pos) (zMeth C m sp dvs E ta t) := by
  refine ⟨fun pins s σ H Q I h => PySem.W.methodCall_KW (pl := pl) (thn (he.run pins s σ H _ I h) fun u s1 got => ?_) ht⟩
  obtain ⟨x, H1, I1, rx, a, dx, fs, rfl, ea, l, q⟩ := got
  cases (show u = Value.ref a from rx)
  refine getmeth_ok I1 ea c hm l ?_
  refine PySem.W.callWith_K (first := [.ref a]) (h₀ := X.base) I.ok.mod.kin hm.kp (thn (ha.run pos pins s1 σ H1 _ I1 q) fun us s2 ⟨vs, H2, I2, r, q2⟩ => ⟨I2.kIn, ?_⟩) hst hpl
  exact runG (us := .ref a :: us) (vs := .ref a :: vs) F hr hb hd hx I2 (.cons rfl r) q2
theorem pz_meth0 {pl : Sem Bool} (he : PE X o ta) (c : Cls X.K C) (hm : Meth X.K C m f) (F : FnX X k f fd ps sp) (hr : RoomG k X.A) (hb : Binds X.K fd ps ds) (hd : Vals dvs ds) (hx : LetsS X E)
    (ht : eval (.Call (.Attribute o m apos) [] [] pos) X.env = (do
        let ov ← eval o X.env
        standAt apos.atName
        let (g, first) ← holding [ov] (getMethod ov m pl)
        callWith pos g first (backTo pos (starEach [] X.env)) (backToKw pos (keywordEach [] X.env))) := by rfl) :
    PE X (.Call (.Attribute o m apos) [] [] pos) (zMeth C m sp dvs E ta tNil) := by
  refine ⟨fun pins s σ H Q I h => PySem.W.methodCall_KW (pl := pl) (thn (he.run pins s σ H _ I h) fun u s1 got => ?_) ht⟩
  obtain ⟨x, H1, I1, rx, a, dx, fs, rfl, ea, l, q⟩ := got
  cases (show u = Value.ref a from rx)
  refine getmeth_ok I1 ea c hm l ?_
  exact PySem.W.callWith_K0 (first := [.ref a]) I1.kIn hm.kp (runG (us := [.ref a]) (vs := [.ref a]) F hr hb hd hx I1 (.cons rfl .nil) q)
/-- C(..) -/
def zMake (C : Addr) (sp : Sp) (dvs : List V) (E : L2.St → XK) (t : TA) : TE := fun σ H Q => t σ H fun vs H1 => ∀ x dx, H1 x = none → H1 dx = none → dx ≠ x →
  sp (.ref x :: (vs ++ dvs)) (upd (upd H1 dx (.own x)) x (.ins C dx [])) (fun v H2 => v = .non ∧ Q (.ref x) H2) (E σ)
theorem runG_make {pins : List (Addr × Obj)} {σ : L2.St} {H : Hp} {s : Shared} {Q : VK} {us : List Value} {vs : List V} (M : Mk X.K C f) (F : FnX X k f fd ps sp) (hr : RoomG (k + 1) X.A) (hb : Binds X.K fd ps ds) (hd : Vals dvs ds)
    (hx : LetsS X E) (I : Inv X pins σ H s) (r : Vals vs us)
    (h : ∀ x dx, H x = none → H dx = none → dx ≠ x → sp (.ref x :: (vs ++ dvs)) (upd (upd H dx (.own x)) x (.ins C dx [])) (fun v H2 => v = .non ∧ Q (.ref x) H2) (E σ)) :
    wpAny (model X.prog X.w) X.A (call (.ref C) us) (EP X pins σ Q) X.xe s := by
  have want := h (s.heap.objs.size + 1) s.heap.objs.size (I.hok.fresh (Nat.le_succ _)) (I.hok.fresh (Nat.le_refl _)) (Nat.ne_of_lt (Nat.lt_succ_self _))
  have J := Inv.made (C := C) I
  have both : Vals (V.ref (s.heap.objs.size + 1) :: (vs ++ dvs)) (Value.ref (s.heap.objs.size + 1) :: (us ++ ds)) := .cons rfl (r.append hd)
  have many : (Value.ref (s.heap.objs.size + 1) :: us ++ ds).length = ps.length := both.length.symm.trans (F.len _ _ _ _ want)
  have body := F.run _ X.stack _ _ ⟨Value.ref (s.heap.objs.size + 1) :: us, []⟩ (Value.ref (s.heap.objs.size + 1) :: (us ++ ds)) _ _ (E σ) (hr.make C us []) (J.env0.make C us []) (hb _ (Value.ref (s.heap.objs.size + 1) :: us) J.kIn many) both want
  refine wpAny_call (make_map (f := f) I.kIn M.makes M.init (beq_iff_eq.mp M.fn) (codeAny_mono body fun res s' got => ?_))
  match res, got with
  | .error ex, q => exact hx σ pins _ _ ex s' J q
  | .ok (.ret u), q =>
    obtain ⟨v, H', I3, rv, rfl, q3⟩ := J.after q
    exact ⟨rv, ⟨V.ref (s.heap.objs.size + 1), H', I3, rfl, q3⟩⟩
  | .ok .next, q => exact q.elim
  | .ok .brk, q => exact q.elim
  | .ok .cont, q => exact q.elim
theorem pz_make (M : Mk X.K C f) (F : FnX X k f fd ps sp) (hr : RoomG (k + 1) X.A) (hg : Gl X x) (hm : X.mg x = some (.ref C)) (hb : Binds X.K fd ps ds) (hd : Vals dvs ds) (hx : LetsS X E)
    (ha : PA X (e :: es) t) (hdb : (x == ("__debug__" : Str)) = false := by decide) (he : starEach (e :: es) X.env = (false, eval e X.env) :: starEach es X.env := by rfl)
    (hpl : (backTo pos (starEach es X.env)).any (·.1) = false := by rfl) : PE X (.Call (.Name x p) (e :: es) [] pos) (zMake C sp dvs E t) := by
  refine ⟨fun pins s σ H Q I h => wpAny_Call_Name_kw (ld_glob I hg hm ?_ hdb)⟩
  exact PySem.W.callWith_K (h₀ := X.base) I.ok.mod.kin M.kp (thn (ha.run pos pins s σ H _ I h) fun us s1 ⟨vs, H1, I1, r, q⟩ => ⟨I1.kIn, runG_make M F hr hb hd hx I1 r q⟩) he hpl
theorem pz_make0 (M : Mk X.K C f) (F : FnX X k f fd ps sp) (hr : RoomG (k + 1) X.A) (hg : Gl X x) (hm : X.mg x = some (.ref C)) (hb : Binds X.K fd ps ds) (hd : Vals dvs ds) (hx : LetsS X E)
    (hdb : (x == ("__debug__" : Str)) = false := by decide) : PE X (.Call (.Name x p) [] [] pos) (zMake C sp dvs E tNil) := by
  refine ⟨fun pins s σ H Q I h => wpAny_Call_Name_kw (ld_glob I hg hm ?_ hdb)⟩
  exact PySem.W.callWith_K0 I.kIn M.kp (runG_make (us := []) M F hr hb hd hx I .nil h)
end
end Z
/-! Layer Z, part D: promises over data, calls. -/
namespace Z
open PySem L2
/-- an argument, a result as a promise speaks of them -/
inductive Aa where
  | dat (d : D) | own (o : Ob)
inductive Rz where
  | dat (d : D) | own (o : Ob)
/-- a promise: the arguments, what is wanted of the result and of the objects handed in, of an exception -/
abbrev Pr := List Aa → (Rz → List Ob → Prop) → (Exn → List Ob → Prop) → Prop
def AasOk (K : PySem.W.Frag) (S H : Hp) : List Aa → List Addr → List V → Prop
  | [], ps, vs => ps = [] ∧ vs = []
  | .dat d :: as, ps, vs => ∃ v r, vs = v :: r ∧ Rep K S d v ∧ AasOk K S H as ps r
  | .own o :: as, ps, vs => ∃ p qs r, ps = p :: qs ∧ vs = .ref p :: r ∧ S p = none ∧ ObRep K S H p o ∧ AasOk K S H as qs r
def OutsAt (K : PySem.W.Frag) (S H : Hp) : List Addr → List Ob → Prop
  | [], os => os = []
  | p :: ps, os => ∃ o r, os = o :: r ∧ S p = none ∧ ObRep K S H p o ∧ OutsAt K S H ps r
structure Post (K : PySem.W.Frag) (f : Fm) (S H : Hp) (os : List Ob) : Prop where
  sub : Ex f.S S
  ex : Ex S H
  keep : ∀ a o, f.H a = some o → a ∉ f.own → H a = some o
  fresh : ∀ a o, S a = some o → f.S a = some o ∨ f.H a = none
  stay : ∀ a u, f.H a = some u → ∃ u', H a = some u'
  outs : OutsAt K S H f.own os
def spZ (K : PySem.W.Frag) (Ψ : Pr) : Sp := fun vs H Q E => ∃ (S : Hp) (as : List Aa) (ps : List Addr) (Φ : Rz → List Ob → Prop) (Φe : Exn → List Ob → Prop), Ex S H ∧ (∃ o φ, H 1 = some (.frz o (.ext φ))) ∧ ps.Nodup ∧ AasOk K S H as ps vs ∧ Ψ as Φ Φe ∧
  (∀ v S2 H2 d os, Φ (.dat d) os → Post K ⟨S, H, ps⟩ S2 H2 os → Rep K S2 d v → Q v H2) ∧
  (∀ p S2 H2 o os, Φ (.own o) os → Post K ⟨S, H, ps⟩ S2 H2 os → p ∉ ps → S2 p = none → H p = none → ObRep K S2 H2 p o → Q (.ref p) H2) ∧
  (∀ x S2 H2 os c d, Φe x os → Post K ⟨S, H, ps⟩ S2 H2 os → ExcAt K S2 x c d → E c d H2)

/-! ### a def's body -/
def mkSl : List Aa → List Addr → List Sl
  | [], _ => []
  | .dat d :: as, ps => .dat d :: mkSl as ps
  | .own o :: as, p :: ps => .own false p o :: mkSl as ps
  | .own o :: as, [] => .no :: mkSl as []
def nOwn : List Aa → Nat
  | [] => 0
  | .dat _ :: as => nOwn as
  | .own _ :: as => nOwn as + 1
theorem AasOk.length {K : PySem.W.Frag} {S H : Hp} : ∀ {as : List Aa} {ps : List Addr} {vs : List V}, AasOk K S H as ps vs → vs.length = as.length ∧ ps.length = nOwn as
  | [], _, _, ⟨h1, h2⟩ => by subst h1 h2; exact ⟨rfl, rfl⟩
  | .dat d :: as, _, _, h => by
    obtain ⟨v, r, rfl, _, h⟩ := h
    obtain ⟨h1, h2⟩ := h.length
    exact ⟨congrArg Nat.succ h1, h2⟩
  | .own o :: as, _, _, h => by
    obtain ⟨p, qs, r, rfl, rfl, _, _, h⟩ := h
    obtain ⟨h1, h2⟩ := h.length
    exact ⟨congrArg Nat.succ h1, congrArg Nat.succ h2⟩
theorem mkSl_length : ∀ (as : List Aa) (ps : List Addr), (mkSl as ps).length = as.length
  | [], _ => rfl
  | .dat d :: as, ps => congrArg Nat.succ (mkSl_length as ps)
  | .own o :: as, p :: ps => congrArg Nat.succ (mkSl_length as ps)
  | .own o :: as, [] => congrArg Nat.succ (mkSl_length as [])
theorem AasOk.owns {K : PySem.W.Frag} {S H : Hp} : ∀ {as : List Aa} {ps : List Addr} {vs : List V}, AasOk K S H as ps vs → owns (mkSl as ps) = ps
  | [], _, _, ⟨h1, h2⟩ => by subst h1; rfl
  | .dat d :: as, _, _, h => by
    obtain ⟨v, r, rfl, _, h⟩ := h
    exact h.owns
  | .own o :: as, _, _, h => by
    obtain ⟨p, qs, r, rfl, rfl, _, _, h⟩ := h
    show p :: Z.owns (mkSl as qs) = p :: qs
    rw [h.owns]
theorem AasOk.slots {K : PySem.W.Frag} {S H : Hp} {f : Fm} : ∀ {as : List Aa} {ps : List Addr} {vs : List V}, AasOk K S H as ps vs → (∀ p ∈ ps, p ∈ f.own) → ∀ (i : Nat) (s : Sl), (mkSl as ps)[i]? = some s → SlOk K f S H (vs.map some)[i]? s
  | [], _, _, _, _, i, s, e => by
    have e' : ([] : List Sl)[i]? = some s := e
    simp at e'
  | .dat d :: as, ps, _, h, hf, i, s, e => by
    obtain ⟨v, r, rfl, h1, h⟩ := h
    cases i with
    | zero =>
      cases (show some (Sl.dat d) = some s from e)
      exact ⟨v, rfl, h1⟩
    | succ i => exact h.slots hf i s e
  | .own o :: as, _, _, h, hf, i, s, e => by
    obtain ⟨p, qs, r, rfl, rfl, h1, h2, h⟩ := h
    cases i with
    | zero =>
      cases (show some (Sl.own false p o) = some s from e)
      exact ⟨rfl, h1, hf p List.mem_cons_self, h2⟩
    | succ i => exact h.slots (fun q hq => hf q (List.mem_cons_of_mem _ hq)) i s e
theorem AasOk.no1 {K : PySem.W.Frag} {S H : Hp} {q : Addr} {ob : Obj} {φ : Heap → Prop} (e : H q = some (.frz ob (.ext φ))) : ∀ {as : List Aa} {ps : List Addr} {vs : List V}, AasOk K S H as ps vs → q ∉ ps
  | [], _, _, ⟨h1, h2⟩, m => by subst h1; cases m
  | .dat d :: as, _, _, h, m => by
    obtain ⟨v, r, rfl, _, h⟩ := h
    exact h.no1 e m
  | .own o :: as, _, _, h, m => by
    obtain ⟨p, qs, r, rfl, rfl, _, h2, h⟩ := h
    rcases List.mem_cons.mp m with rfl | m
    · obtain ⟨u, hu, mu⟩ := h2.there
      rw [e] at hu
      cases hu
      exact mu
    · exact h.no1 e m
theorem owns_nos (Γ : List Sl) : ∀ m : Nat, owns (Γ ++ List.replicate m .no) = owns Γ := fun m => by
  unfold owns
  rw [List.filterMap_append]
  have : (List.replicate m Sl.no).filterMap Sl.addr = [] := by
    induction m with
    | zero => rfl
    | succ m ih => rw [List.replicate_succ, List.filterMap_cons]; exact ih
  rw [this, List.append_nil]
theorem entry {K : PySem.W.Frag} {S H : Hp} {as : List Aa} {ps : List Addr} {vs : List V} {N : List Str} {m : Nat} (ex : Ex S H) (sy : ∃ o φ, H 1 = some (.frz o (.ext φ))) (nd : ps.Nodup) (h : AasOk K S H as ps vs) (hN : vs.length ≤ N.length) (hm : m = N.length - vs.length) :
    At K N.length ⟨S, H, ps⟩ S H (start N vs) (mkSl as ps ++ List.replicate m .no) where
  sub := Ex.refl S
  ex := ex
  keep := fun _ _ h _ => h
  fresh := fun _ _ h => .inl h
  stay := fun _ u h => ⟨u, h⟩
  len := by
    unfold L2.start
    rw [List.length_append, List.length_map, List.length_replicate]
    omega
  nd := by
    rw [owns_nos, h.owns]
    exact nd
  sys := by
    obtain ⟨o, φ, e⟩ := sy
    exact ⟨o, φ, e, fun m => h.no1 e m⟩
  sl := fun i s e => by
    have hl := h.length.1
    by_cases hi : i < as.length
    · rw [List.getElem?_append_left (by rw [mkSl_length]; exact hi)] at e
      unfold L2.start
      rw [List.getElem?_append_left (by rw [List.length_map, hl]; exact hi)]
      exact h.slots (fun p hp => hp) i s e
    · rw [List.getElem?_append_right (by rw [mkSl_length]; omega), List.getElem?_replicate] at e
      split at e
      · cases e
        exact True.intro
      · cases e
def Outs (Γ : List Sl) : List Addr → List Ob → Prop
  | [], os => os = []
  | q :: qs, os => ∃ (o : Ob) (r : List Ob) (i : Nat), os = o :: r ∧ Γ[i]? = some (.own false q o) ∧ Outs Γ qs r
theorem Outs.at {K : PySem.W.Frag} {n : Nat} {f : Fm} {S H : Hp} {σ : St} {Γ : List Sl} (A : At K n f S H σ Γ) : ∀ {qs : List Addr} {os : List Ob}, Outs Γ qs os → OutsAt K S H qs os
  | [], _, h => h
  | q :: qs, _, h => by
    obtain ⟨o, r, i, rfl, e, h⟩ := h
    obtain ⟨_, h1, _, h2⟩ := A.sl i _ e
    exact ⟨o, r, rfl, h1, h2, h.at A⟩
theorem At.post {K : PySem.W.Frag} {n : Nat} {f : Fm} {S H : Hp} {σ : St} {Γ : List Sl} {os : List Ob} (A : At K n f S H σ Γ) (o : Outs Γ f.own os) : Post K f S H os := ⟨A.sub, A.ex, A.keep, A.fresh, A.stay, o.at A⟩
def Rs.z : Rs → Rz
  | .dat d => .dat d
  | .own _ o => .own o
abbrev zOf (K : PySem.W.Frag) (n : Nat) (E : XK) (Φe : Exn → List Ob → Prop) (qs : List Addr) : Zx := ⟨K, n, fun c d _ H => E c d H, fun x Γ => ∃ os, Φe x os ∧ Outs Γ qs os⟩
abbrev geOf (Φ : Rz → List Ob → Prop) (qs : List Addr) : GE := { nx := fun Γ => ∃ os, Φ (.dat .non) os ∧ Outs Γ qs os, rt := fun r Γ => ∃ os, Φ r.z os ∧ Outs Γ qs os }
section
variable {P : Program} {w : World} {K : PySem.W.Frag} {mg : Str → Option Value} {base : Heap} {k : Nat} {f : Addr}
theorem fn_z {x qual : Str} {params : Arguments} {body : List Stmt} {scope : Scope} {dvs : List V} {kws : List (Str × V)} {fd : FuncData} {N ps : List Str} {Ψ : Pr}
    (F : FunD K x qual params body scope dvs kws f fd) (S : FnScope N ps scope) (hl : ∀ as Φ Φe, Ψ as Φ Φe → as.length = ps.length)
    (hbody : ∀ (cdv : Value) (A : Around) (outer : List Env) (s : Shared) (H : Hp) (E : XK), RoomG k (A.deeper (PyProof.Rows.envOfC qual scope s.heap.objs.size f cdv)) →
      ∃ t, PSs (cxOf (CZ P w) P w K mg base N qual scope f cdv A outer s H E) body t ∧ ∀ as qs Φ Φe, Ψ as Φ Φe → qs.length = nOwn as →
        SG (zOf K N.length E Φe qs) t (mkSl as qs ++ List.replicate (N.length - ps.length) .no) (geOf Φ qs)) :
    FnG P w K mg base (k + 1) f fd ps (spZ K Ψ) := by
  have hpl : ps.length ≤ N.length := by
    have := congrArg List.length S.pre
    rw [List.length_take] at this
    omega
  refine FunD_okG F S (fun vs H Q E h => ?_) fun cdv A outer s H vs Q E hr h => ?_
  · obtain ⟨Sh, as, qs, Φ, Φe, _, _, _, h1, h2, _⟩ := h
    rw [h1.length.1]
    exact hl _ _ _ h2
  · obtain ⟨t, ht, body⟩ := hbody cdv A outer s H E hr
    refine ⟨t, ht, ?_⟩
    obtain ⟨Sh, as, qs, Φ, Φe, hex, hsy, hnd, h1, h2, hd, ho, he⟩ := h
    have l1 : vs.length = ps.length := by
      rw [h1.length.1]
      exact hl _ _ _ h2
    refine body as qs Φ Φe h2 h1.length.2 ⟨Sh, H, qs⟩ (fun x S' H' σ Γ c d ⟨os, q, o⟩ A' ea => he x S' H' os c d q (A'.post o) ea) Sh H _ _ (entry hex hsy hnd h1 (by omega) (by omega)) ⟨?_, ?_, ?_, ?_, ?_⟩
    · rintro S' H' σ Γ ⟨os, q, o⟩ A'
      exact hd .non S' H' .non os q (A'.post o) rfl
    · rintro S' H' σ Γ d v ⟨os, q, o⟩ A' r
      exact hd v S' H' d os q (A'.post o) r
    · rintro S' H' σ Γ p ob ⟨os, q, o⟩ A' n1 n2 n3 r
      refine ho p S' H' ob os q (A'.post o) (fun hp => ?_) n2 n3 r
      have z : ∀ {qs : List Addr} {os : List Ob}, Outs Γ qs os → p ∈ qs → p ∈ owns Γ := by
        intro qs
        induction qs with
        | nil => intro os _ hm; cases hm
        | cons b bs ih =>
          rintro os ⟨o1, r1, i, _, e1, h3⟩ hm
          rcases List.mem_cons.mp hm with rfl | hm
          · exact of_owns e1 rfl
          · exact ih h3 hm
      exact n1 (z o hp)
    · exact fun _ _ _ _ q => q.elim
    · exact fun _ _ _ _ q => q.elim
end

/-! ### calls -/
def aaOf (Γ : List Sl) : Ar → Aa
  | .dat d => .dat d
  | .own i _ _ => match Γ[i]? with
    | some (.own _ _ o) => .own o
    | _ => .dat .non
def reown : List Sl → List Ar → List Ob → List Sl
  | Γ, [], _ => Γ
  | Γ, .dat _ :: as, os => reown Γ as os
  | Γ, .own i l p :: as, o :: os => reown (Γ.set i (.own l p o)) as os
  | Γ, .own _ _ _ :: _, [] => Γ
def ixs : List Ar → List Nat
  | [] => []
  | .dat _ :: as => ixs as
  | .own i _ _ :: as => i :: ixs as
def adrs : List Ar → List Addr
  | [] => []
  | .dat _ :: as => adrs as
  | .own _ _ p :: as => p :: adrs as
section
variable {z : Zx} {f : Fm} {S S2 H H2 : Hp} {σ : St} {Γ : List Sl}
theorem At.sysH (A : AtZ z f S H σ Γ) : ∃ o φ, H 1 = some (.frz o (.ext φ)) := by
  obtain ⟨o, φ, e, n⟩ := A.sys
  exact ⟨o, φ, A.keep _ _ e n⟩
theorem ArsOk.aas (A : AtZ z f S H σ Γ) : ∀ {as : List Ar} {vs : List V}, ArsOk z S Γ as vs → AasOk z.K S H (as.map (aaOf Γ)) (adrs as) vs
  | [], _, h => ⟨rfl, h⟩
  | .dat d :: as, _, h => by
    obtain ⟨v, r, rfl, h1, h⟩ := h
    exact ⟨v, r, rfl, h1, h.aas A⟩
  | .own i l p :: as, _, h => by
    obtain ⟨v, r, rfl, ⟨rfl, o, e⟩, h⟩ := h
    obtain ⟨_, h1, _, h2⟩ := A.sl i _ e
    show AasOk z.K S H (aaOf Γ (.own i l p) :: as.map (aaOf Γ)) (p :: adrs as) _
    have ea : aaOf Γ (.own i l p) = .own o := by
      show (match Γ[i]? with
        | some (.own _ _ o) => Aa.own o
        | _ => .dat .non) = .own o
      rw [e]
    rw [ea]
    exact ⟨p, adrs as, r, rfl, rfl, h1, h2, h.aas A⟩
theorem ArsOk.mem : ∀ {as : List Ar} {vs : List V} {p : Addr}, ArsOk z S Γ as vs → p ∈ adrs as → ∃ (i : Nat) (l : Bool) (o : Ob), i ∈ ixs as ∧ Γ[i]? = some (.own l p o)
  | .dat d :: as, _, p, h, hp => by
    obtain ⟨v, r, rfl, _, h⟩ := h
    exact h.mem hp
  | .own i l q :: as, _, p, h, hp => by
    obtain ⟨v, r, rfl, ⟨rfl, o, e⟩, h⟩ := h
    rcases List.mem_cons.mp hp with rfl | hp
    · exact ⟨i, l, o, List.mem_cons_self, e⟩
    · obtain ⟨j, l', o', h1, h2⟩ := h.mem hp
      exact ⟨j, l', o', List.mem_cons_of_mem _ h1, h2⟩
theorem ArsOk.nd (A : AtZ z f S H σ Γ) : ∀ {as : List Ar} {vs : List V}, ArsOk z S Γ as vs → (ixs as).Nodup → (adrs as).Nodup
  | [], _, _, _ => List.nodup_nil
  | .dat d :: as, _, h, nd => by
    obtain ⟨v, r, rfl, _, h⟩ := h
    exact h.nd A nd
  | .own i l p :: as, _, h, nd => by
    obtain ⟨v, r, rfl, ⟨rfl, o, e⟩, h⟩ := h
    obtain ⟨n1, n2⟩ := List.nodup_cons.mp nd
    refine List.nodup_cons.mpr ⟨fun hp => ?_, h.nd A n2⟩
    obtain ⟨j, l', o', h1, h2⟩ := h.mem hp
    exact n1 (by rw [owns_inj A.nd e h2 rfl rfl]; exact h1)
theorem reown_owns : ∀ {as : List Ar} {vs : List V} {os : List Ob} {Γ : List Sl}, ArsOk z S Γ as vs → (ixs as).Nodup → owns (reown Γ as os) = owns Γ
  | [], _, _, _, _, _ => rfl
  | .dat d :: as, _, os, Γ, h, nd => by
    obtain ⟨v, r, rfl, _, h⟩ := h
    exact reown_owns (as := as) h nd
  | .own i l p :: as, _, [], Γ, h, nd => rfl
  | .own i l p :: as, _, o :: os, Γ, h, nd => by
    obtain ⟨v, r, rfl, ⟨rfl, o1, e⟩, h⟩ := h
    obtain ⟨n1, n2⟩ := List.nodup_cons.mp nd
    have h' : ∀ {as : List Ar} {vs : List V}, i ∉ ixs as → ArsOk z S Γ as vs → ArsOk z S (Γ.set i (.own l p o)) as vs := by
      intro as
      induction as with
      | nil => intro vs _ h; exact h
      | cons a as ih =>
        intro vs hi h
        obtain ⟨v, r, rfl, h1, h⟩ := h
        cases a with
        | dat d => exact ⟨v, r, rfl, h1, ih hi h⟩
        | own j l' q =>
          obtain ⟨e1, o2, e2⟩ := h1
          refine ⟨v, r, rfl, ⟨e1, o2, ?_⟩, ih (fun hm => hi (List.mem_cons_of_mem _ hm)) h⟩
          rw [List.getElem?_set_ne (fun z => hi (by rw [z]; exact List.mem_cons_self))]
          exact e2
    show owns (reown (Γ.set i (.own l p o)) as os) = owns Γ
    rw [reown_owns (h' n1 h) n2]
    exact owns_reset e rfl
theorem reown_get : ∀ {as : List Ar} {os : List Ob} {Γ : List Sl} {i : Nat} {s : Sl}, (reown Γ as os)[i]? = some s → OutsAt z.K S2 H2 (adrs as) os →
    (i ∉ ixs as ∧ Γ[i]? = some s) ∨ ∃ (l : Bool) (p : Addr) (o : Ob), s = .own l p o ∧ Ar.own i l p ∈ as ∧ S2 p = none ∧ ObRep z.K S2 H2 p o
  | [], _, _, _, _, e, _ => .inl ⟨by simp [ixs], e⟩
  | .dat d :: as, os, Γ, i, s, e, h => by
    rcases reown_get (as := as) e h with q | ⟨l, p, o, q1, q2, q3⟩
    · exact .inl q
    · exact .inr ⟨l, p, o, q1, List.mem_cons_of_mem _ q2, q3⟩
  | .own j l p :: as, _, Γ, i, s, e, h => by
    obtain ⟨o, r, rfl, h1, h2, h⟩ := h
    rcases reown_get (as := as) (Γ := Γ.set j (.own l p o)) e h with ⟨q1, q2⟩ | ⟨l', p', o', q1, q2, q3⟩
    · rcases get_set q2 with ⟨rfl, rfl⟩ | ⟨ne, q2⟩
      · exact .inr ⟨l, p, o, rfl, List.mem_cons_self, h1, h2⟩
      · refine .inl ⟨fun hm => ?_, q2⟩
        rcases List.mem_cons.mp hm with z | z
        · exact ne z
        · exact q1 z
    · exact .inr ⟨l', p', o', q1, List.mem_cons_of_mem _ q2, q3⟩
theorem ArsOk.at_ix : ∀ {as : List Ar} {vs : List V} {i : Nat} {l : Bool} {p : Addr}, ArsOk z S Γ as vs → Ar.own i l p ∈ as → (∃ o, Γ[i]? = some (.own l p o)) ∧ p ∈ adrs as
  | a :: as, _, i, l, p, h, hm => by
    obtain ⟨v, r, rfl, h1, h⟩ := h
    rcases List.mem_cons.mp hm with rfl | hm
    · obtain ⟨_, o, e⟩ := h1
      exact ⟨⟨o, e⟩, List.mem_cons_self⟩
    · obtain ⟨q1, q2⟩ := h.at_ix hm
      refine ⟨q1, ?_⟩
      cases a with
      | dat d => exact q2
      | own j l' q => exact List.mem_cons_of_mem _ q2
/-- behind a call: He is the heap that the callee met -/
theorem exit_ {He : Hp} {ps : List Addr} {os os' : List Ob} {as : List Ar} {vs : List V} (A : AtZ z f S H σ Γ) (r : ArsOk z S Γ as vs) (nd : (ixs as).Nodup) (eH : Ex H He)
    (hps : ∀ p ∈ ps, p ∈ adrs as ∨ H p = none) (po : Post z.K ⟨S, He, ps⟩ S2 H2 os) (ho : OutsAt z.K S2 H2 (adrs as) os') : AtZ z f S2 H2 σ (reown Γ as os') where
  sub := A.sub.trans po.sub
  ex := po.ex
  keep := fun a o h1 h2 => by
    have q := A.keep a o h1 h2
    refine po.keep a o (eH a o q) fun hp => ?_
    rcases hps a hp with m | m
    · obtain ⟨i, l, o', _, e⟩ := r.mem m
      exact A.not_own h1 h2 (of_owns e rfl)
    · rw [q] at m
      cases m
  fresh := fun a o h => by
    rcases po.fresh a o h with q | q
    · exact A.fresh a o q
    · refine .inr ?_
      cases y : f.H a with
      | none => rfl
      | some u =>
        obtain ⟨u', q'⟩ := A.stay a u y
        have := eH a u' q'
        rw [show He a = none from q] at this
        cases this
  stay := fun a u h => by
    obtain ⟨u', q⟩ := A.stay a u h
    exact po.stay a u' (eH a u' q)
  len := A.len
  nd := by
    rw [reown_owns r nd]
    exact A.nd
  sys := A.sys
  sl := fun i s e => by
    rcases reown_get e ho with ⟨ni, e'⟩ | ⟨l, p, o, rfl, hm, h1, h2⟩
    · have q := A.sl i s e'
      have key : ∀ b, s.addr = some b → b ∉ ps := fun b hb hp => by
        rcases hps b hp with m | m
        · obtain ⟨j, l, o', hj, e2⟩ := r.mem m
          exact ni (by rw [owns_inj A.nd e' e2 hb rfl]; exact hj)
        · obtain ⟨_, _, u, hu, _⟩ := q.owned hb
          rw [hu] at m
          cases m
      refine (SlOk.keep (H := He) (H2 := H2) (q.keep (Ex.refl S) (fun _ _ h => .inl h) fun b u _ h => eH b u h) po.sub (fun a o h => po.fresh a o h) fun b u hb hu => po.keep b u hu (key b hb))
    · obtain ⟨⟨o', e'⟩, _⟩ := r.at_ix hm
      obtain ⟨q1, _, q3, _⟩ := A.sl i _ e'
      exact ⟨q1, h1, q3, h2⟩
/-- a call of a def with a promise -/
theorem call_core {Ψ : Pr} {as : List Ar} {vs : List V} (A : AtZ z f S H σ Γ) (r : ArsOk z S Γ as vs) (nd : (ixs as).Nodup) {Φr : Rz → List Ob → Prop} {Φe : Exn → List Ob → Prop} (p : Ψ (as.map (aaOf Γ)) Φr Φe) {Q : VK} {E : XK}
    (h1 : ∀ v S2 H2 d os, Φr (.dat d) os → AtZ z f S2 H2 σ (reown Γ as os) → Ex S S2 → Rep z.K S2 d v → Q v H2)
    (h2 : ∀ p S2 H2 o os, Φr (.own o) os → AtZ z f S2 H2 σ (reown Γ as os) → Ex S S2 → p ∉ owns (reown Γ as os) → S2 p = none → f.H p = none → ObRep z.K S2 H2 p o → Q (.ref p) H2)
    (h3 : ∀ x S2 H2 os c d, Φe x os → AtZ z f S2 H2 σ (reown Γ as os) → ExcAt z.K S2 x c d → E c d H2) : spZ z.K Ψ vs H Q E := by
  have fin : ∀ {S2 H2 : Hp} {os : List Ob}, Post z.K ⟨S, H, adrs as⟩ S2 H2 os → AtZ z f S2 H2 σ (reown Γ as os) := fun {S2 H2 os} po => exit_ A r nd (Ex.refl H) (fun p hp => .inl hp) po po.outs
  refine ⟨S, as.map (aaOf Γ), adrs as, Φr, Φe, A.ex, A.sysH, r.nd A nd, r.aas A, p, fun v S2 H2 d os q po rr => h1 v S2 H2 d os q (fin po) po.sub rr, fun b S2 H2 o os q po n1 n2 n3 rr => ?_, fun x S2 H2 os c d q po ea => h3 x S2 H2 os c d q (fin po) ea⟩
  obtain ⟨g1, g2, _⟩ := A.free n3
  refine h2 b S2 H2 o os q (fin po) po.sub ?_ n2 g1 rr
  rw [reown_owns r nd]
  exact g2
/-- what a caller gets: data, or a new object come to rest -/
abbrev gotD (Φ : D → List Sl → Prop) (Γ : List Sl) (as : List Ar) : Rz → List Ob → Prop
  | .dat d, os => Φ d (reown Γ as os)
  | .own o, os => ∃ d, o.data = some d ∧ Φ d (reown Γ as os)
abbrev gotO (Φ : Ob → List Sl → Prop) (Γ : List Sl) (as : List Ar) : Rz → List Ob → Prop
  | .dat _, _ => False
  | .own o, os => Φ o (reown Γ as os)
variable {Φ : D → List Sl → Prop} {Φo : Ob → List Sl → Prop} {ta : TA} {te : TE}
/-- a new object comes to rest -/
theorem KD.rest {Q : VK} {p : Addr} {o : Ob} {d : D} (k : KD z f S σ Φ Q) (hd : o.data = some d) (h : Φ d Γ) (A : AtZ z f S2 H2 σ Γ) (e : Ex S S2) (n1 : p ∉ owns Γ) (n2 : S2 p = none) (n3 : f.H p = none) (r : ObRep z.K S2 H2 p o) : Q (.ref p) H2 := by
  obtain ⟨u, hu, rr⟩ := r.data hd
  have x : Ex S2 (upd S2 p u) := (Ex.refl S2).upd n2
  exact k _ _ H2 d Γ h (A.rest n1 n2 n3 hu) (e.trans x) (rr _ x upd_same)
theorem eg_eo (h : EO z te Γ fun o Γ1 => ∃ d, o.data = some d ∧ Φ d Γ1) : EG z te Γ Φ := fun f X S H σ Q A k =>
  h f X S H σ Q A fun p S2 H2 o Γ2 ⟨d, hd, h1⟩ A2 e n1 n2 n3 r => k.rest hd h1 A2 e n1 n2 n3 r
theorem eg_call {Ψ : Pr} (h : AGz z ta Γ fun as Γ1 => (ixs as).Nodup ∧ Ψ (as.map (aaOf Γ1)) (gotD Φ Γ1 as) fun x os => z.Xe x (reown Γ1 as os)) : EG z (zCall (spZ z.K Ψ) [] (WE z.W) ta) Γ Φ := fun f X S H σ Q A k =>
  h f X S H σ _ A fun vs S1 H1 as Γ1 ⟨nd, p⟩ A1 e1 r => by
    rw [List.append_nil]
    exact call_core A1 r nd p (fun v S2 H2 d os q A2 e2 rr => k v S2 H2 d _ q A2 (e1.trans e2) rr) (fun b S2 H2 o os ⟨d, hd, q⟩ A2 e2 n1 n2 n3 rr => k.rest hd q A2 (e1.trans e2) n1 n2 n3 rr) fun x S2 H2 os c d q A2 ea => X x S2 H2 σ _ c d q A2 ea
theorem eg_callN {Ψ : Pr} (h : AGz z ta Γ fun as Γ1 => (ixs as).Nodup ∧ Ψ (as.map (aaOf Γ1)) (gotD Φ Γ1 as) fun _ _ => False) : EG z (zCall (spZ z.K Ψ) [] (fun _ => E0) ta) Γ Φ := fun f X S H σ Q A k =>
  h f X S H σ _ A fun vs S1 H1 as Γ1 ⟨nd, p⟩ A1 e1 r => by
    rw [List.append_nil]
    exact call_core A1 r nd p (fun v S2 H2 d os q A2 e2 rr => k v S2 H2 d _ q A2 (e1.trans e2) rr) (fun b S2 H2 o os ⟨d, hd, q⟩ A2 e2 n1 n2 n3 rr => k.rest hd q A2 (e1.trans e2) n1 n2 n3 rr) fun x S2 H2 os c d q A2 ea => q
theorem eo_call {Ψ : Pr} (h : AGz z ta Γ fun as Γ1 => (ixs as).Nodup ∧ Ψ (as.map (aaOf Γ1)) (gotO Φo Γ1 as) fun x os => z.Xe x (reown Γ1 as os)) : EO z (zCall (spZ z.K Ψ) [] (WE z.W) ta) Γ Φo := fun f X S H σ Q A k =>
  h f X S H σ _ A fun vs S1 H1 as Γ1 ⟨nd, p⟩ A1 e1 r => by
    rw [List.append_nil]
    exact call_core A1 r nd p (fun v S2 H2 d os q A2 e2 rr => q.elim) (fun b S2 H2 o os q A2 e2 n1 n2 n3 rr => k b S2 H2 o _ q A2 (e1.trans e2) n1 n2 n3 rr) fun x S2 H2 os c d q A2 ea => X x S2 H2 σ _ c d q A2 ea
end
end Z
/-! Layer Z, part E: arguments, displays, statements, loops. -/
namespace Z
open PySem L2
section
variable {z : Zx} {f : Fm} {S S2 H H2 : Hp} {σ : St} {Γ : List Sl} {Φ : D → List Sl → Prop} {Φo : Ob → List Sl → Prop} {Φa : List Ar → List Sl → Prop} {G : GE} {ta : TA} {te tb tc : TE} {t u : TS} {tt : TT}

/-! ### arguments, displays -/
theorem ag_nil (h : Φa [] Γ) : AGz z tNil Γ Φa := fun f X S H σ Q A k => k [] S H [] Γ h A (Ex.refl S) rfl
theorem ArOk.mono {a : Ar} {v : V} {Γ2 : List Sl} (e : Ex S S2) (k : ∀ (i : Nat) (l : Bool) (p : Addr) (o : Ob), Γ[i]? = some (.own l p o) → ∃ o', Γ2[i]? = some (.own l p o')) (h : ArOk z S Γ a v) : ArOk z S2 Γ2 a v := by
  cases a with
  | dat d => exact Rep.mono e d h
  | own i l p =>
    obtain ⟨h1, o, h2⟩ := h
    exact ⟨h1, k i l p o h2⟩
theorem ag_cons {tr : TA} (h : EG z te Γ fun d Γ1 => AGz z tr Γ1 fun as Γ2 => Φa (.dat d :: as) Γ2) : AGz z (tCons te tr) Γ Φa := fun f X S H σ Q A k =>
  h f X S H σ _ A fun v S1 H1 d Γ1 h1 A1 e1 r1 => h1 f X S1 H1 σ _ A1 fun vs S2 H2 as Γ2 h2 A2 e2 r2 => k (v :: vs) S2 H2 _ Γ2 h2 A2 (e1.trans e2) ⟨v, vs, rfl, r1.mono e2 d, r2⟩
/-- a slot that holds an object of one's own is handed on -/
theorem ag_own {tr : TA} {i : Nat} {l : Bool} {p : Addr} {o : Ob} (e : Γ[i]? = some (.own l p o)) (h : AGz z tr Γ fun as Γ2 => (∃ o', Γ2[i]? = some (.own l p o')) ∧ Φa (.own i l p :: as) Γ2) : AGz z (tCons (tVar i) tr) Γ Φa := fun f X S H σ Q A k => by
  obtain ⟨e1, _⟩ := A.sl i _ e
  exact ⟨_, e1, h f X S H σ _ A fun vs S2 H2 as Γ2 ⟨h1, h2⟩ A2 e2 r2 => k _ S2 H2 _ Γ2 h2 A2 e2 ⟨_, vs, rfl, ⟨rfl, h1⟩, r2⟩⟩
def dats : List Ar → Option (List D)
  | [] => some []
  | .dat d :: as => (dats as).map (d :: ·)
  | .own _ _ _ :: _ => none
theorem ArsOk.dats : ∀ {as : List Ar} {vs : List V} {ds : List D}, ArsOk z S Γ as vs → dats as = some ds → RepL z.K S ds vs
  | [], _, _, h, e => by
    cases (show some ([] : List D) = some _ from e)
    exact h
  | .dat d :: as, _, ds, h, e => by
    obtain ⟨v, r, rfl, h1, h⟩ := h
    cases q : Z.dats as with
    | none =>
      have e' : (Z.dats as).map (d :: ·) = some ds := e
      rw [q] at e'
      cases e'
    | some es =>
      have e' : (Z.dats as).map (d :: ·) = some ds := e
      rw [q] at e'
      cases e'
      exact ⟨v, r, rfl, h1, h.dats q⟩
theorem sz {n : Nat} (h : n ≤ 1000000) : n ≤ sizeLine := Nat.le_trans h (by decide)
theorem eg_tup (h : AGz z ta Γ fun as Γ1 => ∃ ds, dats as = some ds ∧ ds.length ≤ 1000000 ∧ Φ (.tup ds) Γ1) : EG z (tTup ta) Γ Φ := fun f X S H σ Q A k =>
  h f X S H σ _ A fun vs S1 H1 as Γ1 ⟨ds, hd, hl, h1⟩ A1 e1 r1 => ⟨by rw [(r1.dats hd).length]; exact sz hl, fun p hp => by
    have x : Ex S1 (upd S1 p (.tup vs)) := (Ex.refl S1).upd (A1.ex.none hp)
    exact k _ _ _ _ Γ1 h1 (A1.laid hp) (e1.trans x) ⟨p, vs, rfl, upd_same, (r1.dats hd).mono x⟩⟩
theorem eo_lst (h : AGz z ta Γ fun as Γ1 => ∃ ds, dats as = some ds ∧ ds.length ≤ 1000000 ∧ Φo (.lst ds) Γ1) : EO z (tLst ta) Γ Φo := fun f X S H σ Q A k =>
  h f X S H σ _ A fun vs S1 H1 as Γ1 ⟨ds, hd, hl, h1⟩ A1 e1 r1 => ⟨by rw [(r1.dats hd).length]; exact sz hl, fun p hp => by
    obtain ⟨g1, g2, g3⟩ := A1.free hp
    exact k p S1 _ _ Γ1 h1 (A1.laidO hp) e1 g2 g3 g1 ⟨vs, upd_same, r1.dats hd⟩⟩
theorem eg_lst (h : AGz z ta Γ fun as Γ1 => ∃ ds, dats as = some ds ∧ ds.length ≤ 1000000 ∧ Φ (.lst ds) Γ1) : EG z (tLst ta) Γ Φ := eg_eo (eo_lst fun f X S H σ Q A k => h f X S H σ Q A fun vs S2 H2 as Γ2 ⟨ds, h1, h2, h3⟩ => k vs S2 H2 as Γ2 ⟨ds, h1, h2, _, rfl, h3⟩)

/-! ### subscripts, slices -/
theorem og_ixL {ds : List D} {i : Int} {d : D} (e : atI ds i = some d) (h : Φ d Γ) : OG z (rIxL z.K) (.lst ds) (.int i) Γ Φ := fun f _ S H σ v w Q A p q k => by
  obtain ⟨a, vs, rfl, h1, h2⟩ := p
  unfold atI at e
  obtain ⟨j, e1, e2⟩ := Option.bind_eq_some_iff.mp e
  obtain ⟨v, e3, r⟩ := h2.get e2
  exact ⟨a, vs, i, v, rfl, q, SqL.of (A.ex _ _ h1), by unfold atI; rw [h2.length, e1]; exact e3, k.refl h A r⟩
theorem og_ixT {ds : List D} {i : Int} {d : D} (e : atI ds i = some d) (h : Φ d Γ) : OG z (rIxT z.K) (.tup ds) (.int i) Γ Φ := fun f _ S H σ v w Q A p q k => by
  obtain ⟨a, vs, rfl, h1, h2⟩ := p
  unfold atI at e
  obtain ⟨j, e1, e2⟩ := Option.bind_eq_some_iff.mp e
  obtain ⟨v, e3, r⟩ := h2.get e2
  exact ⟨a, vs, i, v, rfl, q, SqT.of (A.ex _ _ h1), by unfold atI; rw [h2.length, e1]; exact e3, k.refl h A r⟩
theorem og_ixS {x : Str} {i : Int} {c : Nat} (hl : x.length ≤ 1000000) (e : atI x.cps.toList i = some c) (h : Φ (.str ⟨#[c]⟩) Γ) : OG z rIxS (.str x) (.int i) Γ Φ := fun f _ S H σ v w Q A p q k =>
  ⟨x, i, c, p, q, sz hl, e, k.refl h A rfl⟩
/-- an item of a list of one's own -/
theorem eg_ixO {i : Nat} {l : Bool} {p : Addr} {o : Ob} (e : Γ[i]? = some (.own l p o)) (h : EG z tb Γ fun x Γ1 => ∃ ds j d, x = .int j ∧ Γ1[i]? = some (.own l p (.lst ds)) ∧ atI ds j = some d ∧ Φ d Γ1) : EG z (tOp (rIxL z.K) (tVar i) tb) Γ Φ := fun f X S H σ Q A k => by
  obtain ⟨e1, _⟩ := A.sl i _ e
  refine ⟨_, e1, h f X S H σ _ A fun v S1 H1 x Γ1 ⟨ds, j, d, hx, e2, e3, h1⟩ A1 ee r => ?_⟩
  subst hx
  obtain ⟨_, _, _, vs, g1, g2⟩ := A1.sl i _ e2
  unfold atI at e3
  obtain ⟨m, e4, e5⟩ := Option.bind_eq_some_iff.mp e3
  obtain ⟨v', e6, r'⟩ := g2.get e5
  exact ⟨p, vs, j, v', rfl, r, SqL.of g1, by unfold atI; rw [g2.length, e4]; exact e6, k v' S1 H1 d Γ1 h1 A1 ee r'⟩
/-- the length of a list of one's own -/
theorem cg_lenO {i : Nat} {l : Bool} {p : Addr} {ds : List D} (e : Γ[i]? = some (.own l p (.lst ds))) (h : Φ (.int ds.length) Γ) : CG z (fun xs H Q => ∃ x n, xs = [x] ∧ LenV z.K x H n ∧ Q (.int n) H) [.own i l p] Γ Φ := fun f _ S H σ vs Q A r k => by
  obtain ⟨v, _, rfl, ⟨rfl, _⟩, rfl⟩ := r
  obtain ⟨_, _, _, vs, g1, g2⟩ := A.sl i _ e
  refine ⟨_, ds.length, rfl, .inl ⟨vs, SqL.of g1, g2.length.symm⟩, k.refl h A rfl⟩
/-- its length -/
def D.len : D → Option Nat
  | .str x => some x.length
  | .lst ds => some ds.length
  | .tup ds => some ds.length
  | .fro ds => some ds.length
  | _ => none
def D.small : D → Prop
  | .str x => x.length ≤ 1000000
  | _ => True
theorem cg_len {d : D} {n : Nat} (e : d.len = some n) (hs : d.small) (h : Φ (.int n) Γ) : CG z (fun xs H Q => ∃ x n, xs = [x] ∧ LenV z.K x H n ∧ Q (.int n) H) [.dat d] Γ Φ := fun f _ S H σ vs Q A r k => by
  obtain ⟨v, _, rfl, r, rfl⟩ := r
  refine ⟨v, n, rfl, ?_, k.refl h A rfl⟩
  cases d with
  | str x =>
    cases e
    cases (show v = _ from r)
    exact ⟨sz hs, rfl⟩
  | lst ds =>
    cases e
    obtain ⟨a, vs, rfl, g1, g2⟩ := r
    exact .inl ⟨vs, SqL.of (A.ex _ _ g1), g2.length.symm⟩
  | fro ds =>
    cases e
    obtain ⟨a, vs, rfl, g1, g2⟩ := r
    exact .inl ⟨vs, A.ex.l g1, g2.length.symm⟩
  | tup ds =>
    cases e
    obtain ⟨a, vs, rfl, g1, g2⟩ := r
    exact .inr ⟨vs, SqT.of (A.ex _ _ g1), g2.length.symm⟩
  | _ => cases e
theorem eg_cb {r : List V → Hp → VK → Prop} (h : AGz z ta Γ fun as Γ1 => CG z r as Γ1 Φ) : EG z (tCB r ta) Γ Φ := fun f X S H σ Q A k =>
  h f X S H σ _ A fun vs S1 H1 as Γ1 h1 A1 e1 r1 => h1 f X S1 H1 σ vs Q A1 r1 fun v S2 H2 d Γ2 h2 A2 e2 r2 => k v S2 H2 d Γ2 h2 A2 (e1.trans e2) r2
theorem eo_cb {r : List V → Hp → VK → Prop} (h : AGz z ta Γ fun as Γ1 => CO z r as Γ1 Φo) : EO z (tCB r ta) Γ Φo := fun f X S H σ Q A k =>
  h f X S H σ _ A fun vs S1 H1 as Γ1 h1 A1 e1 r1 => h1 f X S1 H1 σ vs Q A1 r1 fun v S2 H2 d Γ2 h2 A2 e2 => k v S2 H2 d Γ2 h2 A2 (e1.trans e2)
def cutD {α : Type} (ds : List α) (lo hi : Option Int) : List α := (ds.drop (HT.sIx ds.length 0 lo)).take (HT.sIx ds.length ds.length hi - HT.sIx ds.length 0 lo)
theorem RepL.cut {ds : List D} {vs : List V} {K : PySem.W.Frag} (r : RepL K S ds vs) (lo hi : Option Int) : RepL K S (cutD ds lo hi) (cutV vs lo hi) := by
  unfold cutD cutV
  rw [r.length]
  exact (r.drop _).take _
def OPz (z : Zx) (t : TO) (Γ : List Sl) (Φ : Option Int → List Sl → Prop) : Prop := ∀ f, XOk z f → ∀ S H σ (Q : Option Int → Hp → Prop), AtZ z f S H σ Γ → (∀ o S2 H2 Γ2, Φ o Γ2 → AtZ z f S2 H2 σ Γ2 → Ex S S2 → Q o H2) → t σ H Q
theorem op_no {Φ : Option Int → List Sl → Prop} (h : Φ none Γ) : OPz z tNoPart Γ Φ := fun f X S H σ Q A k => k none S H Γ h A (Ex.refl S)
theorem op_some {Φ : Option Int → List Sl → Prop} (h : EG z te Γ fun d Γ1 => ∃ i, d = .int i ∧ Φ (some i) Γ1) : OPz z (tPart te) Γ Φ := fun f X S H σ Q A k =>
  h f X S H σ _ A fun v S1 H1 d Γ1 ⟨i, e, h1⟩ A1 e1 r1 => by
    subst e
    exact ⟨i, r1, k _ S1 H1 Γ1 h1 A1 e1⟩
theorem eo_slL {tl th : TO} (h : EG z te Γ fun d Γ1 => ∃ ds, (d = .lst ds ∨ d = .fro ds) ∧ OPz z tl Γ1 fun lo Γ2 => OPz z th Γ2 fun hi Γ3 => Φo (.lst (cutD ds lo hi)) Γ3) : EO z (tSl (rSlL z.K) te tl th) Γ Φo := fun f X S H σ Q A k =>
  h f X S H σ _ A fun v S1 H1 d Γ1 ⟨ds, hd, h1⟩ A1 e1 r1 => h1 f X S1 H1 σ _ A1 fun lo S2 H2 Γ2 h2 A2 e2 => h2 f X S2 H2 σ _ A2 fun hi S3 H3 Γ3 h3 A3 e3 => by
    have key : ∃ a vs, v = .ref a ∧ SqL z.K H3 a vs ∧ RepL z.K S3 ds vs := by
      rcases hd with rfl | rfl
      · obtain ⟨a, vs, rfl, g1, g2⟩ := r1
        exact ⟨a, vs, rfl, SqL.of (A3.ex _ _ (e3 _ _ (e2 _ _ g1))), (g2.mono e2).mono e3⟩
      · obtain ⟨a, vs, rfl, g1, g2⟩ := r1
        exact ⟨a, vs, rfl, A3.ex.l (e3.l (e2.l g1)), (g2.mono e2).mono e3⟩
    obtain ⟨a, vs, rfl, g1, g2⟩ := key
    refine ⟨a, vs, rfl, g1, fun p hp => ?_⟩
    obtain ⟨k1, k2, k3⟩ := A3.free hp
    exact k p S3 _ _ Γ3 h3 (A3.laidO hp) ((e1.trans e2).trans e3) k2 k3 k1 ⟨_, upd_same, g2.cut lo hi⟩
theorem co_list {d : D} {ds : List D} (hd : d = .lst ds ∨ d = .tup ds ∨ d = .fro ds) (h : Φo (.lst ds) Γ) : CO z (fun xs H Q => ∃ p ys, xs = [.ref p] ∧ (SqL z.K H p ys ∨ SqT z.K H p ys) ∧ ∀ l, H l = none → Q (.ref l) (upd H l (.lst ys))) [.dat d] Γ Φo := fun f _ S H σ vs Q A r k => by
  obtain ⟨v, _, rfl, r, rfl⟩ := r
  have key : ∃ p ys, v = .ref p ∧ (SqL z.K H p ys ∨ SqT z.K H p ys) ∧ RepL z.K S ds ys := by
    rcases hd with rfl | rfl | rfl
    · obtain ⟨a, vs, rfl, g1, g2⟩ := r
      exact ⟨a, vs, rfl, .inl (SqL.of (A.ex _ _ g1)), g2⟩
    · obtain ⟨a, vs, rfl, g1, g2⟩ := r
      exact ⟨a, vs, rfl, .inr (SqT.of (A.ex _ _ g1)), g2⟩
    · obtain ⟨a, vs, rfl, g1, g2⟩ := r
      exact ⟨a, vs, rfl, .inl (A.ex.l g1), g2⟩
  obtain ⟨p, ys, rfl, g1, g2⟩ := key
  refine ⟨p, ys, rfl, g1, fun l hl => ?_⟩
  obtain ⟨k1, k2, k3⟩ := A.free hl
  exact k l S _ _ Γ h (A.laidO hl) (Ex.refl S) k2 k3 k1 ⟨ys, upd_same, g2⟩
/-- two lists in a row -/
theorem og_cat {xs ys : List D} (hl : xs.length + ys.length ≤ 1000000) (h : Φo (.lst (xs ++ ys)) Γ) : ∀ f, XOk z f → ∀ S H σ v u (Q : VK), AtZ z f S H σ Γ → Rep z.K S (.lst xs) v → Rep z.K S (.lst ys) u → KO z f S σ Φo Q → rCat v u H Q := fun f _ S H σ v w Q A p q k => by
  obtain ⟨a, vs, rfl, g1, g2⟩ := p
  obtain ⟨b, us, rfl, g3, g4⟩ := q
  refine ⟨a, b, vs, us, rfl, rfl, A.ex _ _ g1, A.ex _ _ g3, by rw [g2.length, g4.length]; exact sz hl, fun l hl => ?_⟩
  obtain ⟨k1, k2, k3⟩ := A.free hl
  exact k l S _ _ Γ h (A.laidO hl) (Ex.refl S) k2 k3 k1 ⟨_, upd_same, g2.append g4⟩
theorem eo_cat (h : EG z te Γ fun a Γ1 => EG z tb Γ1 fun b Γ2 => ∃ xs ys, a = .lst xs ∧ b = .lst ys ∧ xs.length + ys.length ≤ 1000000 ∧ Φo (.lst (xs ++ ys)) Γ2) : EO z (tOp rCat te tb) Γ Φo := fun f X S H σ Q A k =>
  h f X S H σ _ A fun v S1 H1 a Γ1 h1 A1 e1 r1 => h1 f X S1 H1 σ _ A1 fun u S2 H2 b Γ2 ⟨xs, ys, ea, eb, hl, h2⟩ A2 e2 r2 => by
    subst ea eb
    exact og_cat hl h2 f X S2 H2 σ v u Q A2 (r1.mono e2 _) r2 fun p S3 H3 o Γ3 h3 A3 e3 => k p S3 H3 o Γ3 h3 A3 ((e1.trans e2).trans e3)

/-! ### targets -/
def GGz (z : Zx) (g : TG) (d : D) (Γ : List Sl) (Φ : List Sl → Prop) : Prop := ∀ f, XOk z f → ∀ S H σ v (Q : St → Hp → Prop), AtZ z f S H σ Γ → Rep z.K S d v → (∀ S2 H2 σ2 Γ2, Φ Γ2 → AtZ z f S2 H2 σ2 Γ2 → Ex S S2 → Q σ2 H2) → g v σ H Q
def GGs (z : Zx) (g : TGs) (ds : List D) (Γ : List Sl) (Φ : List Sl → Prop) : Prop := ∀ f, XOk z f → ∀ S H σ vs (Q : St → Hp → Prop), AtZ z f S H σ Γ → RepL z.K S ds vs → (∀ S2 H2 σ2 Γ2, Φ Γ2 → AtZ z f S2 H2 σ2 Γ2 → Ex S S2 → Q σ2 H2) → g vs σ H Q
variable {Φs : List Sl → Prop}
theorem gg_name {i : Nat} {d : D} (hi : i < z.n) (h : Φs (Γ.set i (.dat d))) : GGz z (gName i) d Γ Φs := fun f X S H σ v Q A r k => k S H _ _ h (A.set_dat hi r) (Ex.refl S)
theorem gg_tup {n : Nat} {t : TGs} {ds : List D} (hl : ds.length = n) (h : GGs z t ds Γ Φs) : GGz z (gTup z.K n t) (.tup ds) Γ Φs := fun f X S H σ v Q A r k => by
  obtain ⟨a, vs, rfl, g1, g2⟩ := r
  exact ⟨a, vs, rfl, SqT.of (A.ex _ _ g1), g2.length.trans hl, h f X S H σ vs Q A g2 k⟩
theorem ggs_nil (h : Φs Γ) : GGs z gNil [] Γ Φs := fun f X S H σ v Q A r k => ⟨r, k S H σ Γ h A (Ex.refl S)⟩
theorem ggs_cons {t : TG} {u : TGs} {d : D} {ds : List D} (h : GGz z t d Γ fun Γ1 => GGs z u ds Γ1 Φs) : GGs z (gCons t u) (d :: ds) Γ Φs := fun f X S H σ vs Q A r k => by
  obtain ⟨v, us, rfl, r1, r2⟩ := r
  exact ⟨v, us, rfl, h f X S H σ v _ A r1 fun S2 H2 σ2 Γ2 h2 A2 e2 => h2 f X S2 H2 σ2 us Q A2 (r2.mono e2) fun S3 H3 σ3 Γ3 h3 A3 e3 => k S3 H3 σ3 Γ3 h3 A3 (e2.trans e3)⟩
/-- an item of a list of one's own is stored -/
theorem gg_setL {i : Nat} {l : Bool} {p : Addr} {o : Ob} {d : D} (e : Γ[i]? = some (.own l p o)) (h : EG z te Γ fun x Γ1 => ∃ ds j m, x = .int j ∧ Γ1[i]? = some (.own l p (.lst ds)) ∧ ixN ds.length j = some m ∧ Φs (Γ1.set i (.own l p (.lst (ds.set m d))))) : GGz z (gSub (tVar i) te rSetL) d Γ Φs := fun f X S H σ v Q A r k => by
  obtain ⟨e1, _⟩ := A.sl i _ e
  refine ⟨_, e1, h f X S H σ _ A fun w S1 H1 x Γ1 ⟨ds, j, m, hx, e2, e3, h1⟩ A1 ee r1 => ?_⟩
  subst hx
  obtain ⟨_, g0, _, vs, g1, g2⟩ := A1.sl i _ e2
  refine ⟨p, vs, j, m, rfl, r1, g1, by rw [g2.length]; exact e3, k S1 _ σ _ h1 (A1.change e2 ⟨_, upd_same, g2.set m (r.mono ee d)⟩) ee⟩

/-! ### statements -/
theorem sg_next (h : G.nx Γ) : SG z tNext Γ G := fun f X S H σ D A E => E.nx S H σ Γ h A
theorem sg_seq (h : SG z t Γ { G with nx := fun Γ1 => SG z u Γ1 G }) : SG z (tSeq t u) Γ G := fun f X S H σ D A E =>
  h f X S H σ { D with nx := u D } A ⟨fun S1 H1 σ1 Γ1 h1 A1 => h1 f X S1 H1 σ1 D A1 E, E.rt, E.rto, E.bk, E.ct⟩
theorem sg_break (h : G.bk Γ) : SG z tBreak Γ G := fun f X S H σ D A E => E.bk S H σ Γ h A
theorem sg_cont (h : G.ct Γ) : SG z tCont Γ G := fun f X S H σ D A E => E.ct S H σ Γ h A
theorem sg_drop (h : EG z te Γ fun _ Γ1 => G.nx Γ1) : SG z (tDrop te) Γ G := fun f X S H σ D A E => h f X S H σ _ A fun v S1 H1 d Γ1 h1 A1 _ _ => E.nx S1 H1 σ Γ1 h1 A1
theorem sg_ret (h : EG z te Γ fun d Γ1 => G.rt (.dat d) Γ1) : SG z (tRet te) Γ G := fun f X S H σ D A E => h f X S H σ _ A fun v S1 H1 d Γ1 h1 A1 _ r => E.rt S1 H1 σ Γ1 d v h1 A1 r
theorem sg_reto (h : EO z te Γ fun o Γ1 => ∀ p, G.rt (.own p o) Γ1) : SG z (tRet te) Γ G := fun f X S H σ D A E => h f X S H σ _ A fun p S1 H1 o Γ1 h1 A1 _ n1 n2 n3 r => E.rto S1 H1 σ Γ1 p o (h1 p) A1 n1 n2 n3 r
theorem sg_retN (h : G.rt (.dat .non) Γ) : SG z tRetN Γ G := fun f X S H σ D A E => E.rt S H σ Γ .non .non h A rfl
theorem At.drop {K : PySem.W.Frag} {n : Nat} (A : At K n f S H σ Γ) (i : Nat) : At K n f S H σ (Γ.set i .no) where
  sub := A.sub
  ex := A.ex
  keep := A.keep
  fresh := A.fresh
  stay := A.stay
  len := A.len
  nd := A.nd.sublist (owns_set_sub rfl)
  sys := A.sys
  sl := fun j s e => by
    rcases get_set e with ⟨rfl, rfl⟩ | ⟨ne, e⟩
    · exact True.intro
    · exact A.sl j s e
theorem not_owned {i : Nat} {l : Bool} {p : Addr} {o : Ob} {s : Sl} (nd : (owns Γ).Nodup) (e : Γ[i]? = some (.own l p o)) (hs : s.addr = none) : p ∉ owns (Γ.set i s) := fun m => by
  obtain ⟨j, s', e1, e2⟩ := mem_owns m
  rcases get_set e1 with ⟨rfl, rfl⟩ | ⟨ne, e3⟩
  · rw [hs] at e2
    cases e2
  · exact ne (owns_inj nd e3 e e2 rfl)
/-- an object of one's own is handed back -/
theorem sg_ret_own {i : Nat} {p : Addr} {o : Ob} (e : Γ[i]? = some (.own true p o)) (h : G.rt (.own p o) (Γ.set i .no)) : SG z (tRet (tVar i)) Γ G := fun f X S H σ D A E => by
  obtain ⟨e1, g1, g2, g3⟩ := A.sl i _ e
  exact ⟨_, e1, E.rto S H σ _ p o h (A.drop i) (not_owned A.nd e rfl) g1 g2 g3⟩
theorem sg_asg {g : TG} (h : EG z te Γ fun d Γ1 => GGz z g d Γ1 G.nx) : SG z (tAsg te g) Γ G := fun f X S H σ D A E =>
  h f X S H σ _ A fun v S1 H1 d Γ1 h1 A1 _ r => h1 f X S1 H1 σ v _ A1 r fun S2 H2 σ2 Γ2 h2 A2 _ => E.nx S2 H2 σ2 Γ2 h2 A2
theorem sg_asgo {i : Nat} (hi : i < z.n) (h : EO z te Γ fun o Γ1 => ∀ p, G.nx (Γ1.set i (.own true p o))) : SG z (tAsg te (gName i)) Γ G := fun f X S H σ D A E =>
  h f X S H σ _ A fun p S1 H1 o Γ1 h1 A1 _ n1 n2 n3 r => E.nx S1 H1 _ _ (h1 p) (A1.set_own hi n1 n2 n3 r)
theorem sg_par {i j : Nat} (hi : i < z.n) (hj : j < z.n) (h : AGz z ta Γ fun as Γ1 => ∃ a b, as = [.dat a, .dat b] ∧ G.nx ((Γ1.set i (.dat a)).set j (.dat b))) : SG z (tPar i j ta) Γ G := fun f X S H σ D A E =>
  h f X S H σ _ A fun vs S1 H1 as Γ1 ⟨a, b, e, h1⟩ A1 _ r => by
    subst e
    obtain ⟨v, _, rfl, r1, w, _, rfl, r2, rfl⟩ := r
    exact ⟨v, w, rfl, E.nx S1 H1 _ _ h1 ((A1.set_dat hi r1).set_dat hj r2)⟩
theorem sg_if (h : TGz z tt Γ fun b Γ1 => (b = true → SG z t Γ1 G) ∧ (b = false → SG z u Γ1 G)) : SG z (tIfS tt t u) Γ G := fun f X S H σ D A E =>
  h f X S H σ _ A fun b S1 H1 Γ1 ⟨h1, h2⟩ A1 _ => by
    cases b with
    | true => exact h1 rfl f X S1 H1 σ D A1 E
    | false => exact h2 rfl f X S1 H1 σ D A1 E
theorem sg_aug {i : Nat} {g : Int → Int → Int} {a : Int} (e : Γ[i]? = some (.dat (.int a))) (hi : i < z.n) (h : EG z te Γ fun d Γ1 => ∃ b, d = .int b ∧ G.nx (Γ1.set i (.dat (.int (g a b))))) : SG z (tAug i te (ipI g)) Γ G := fun f X S H σ D A E => by
  obtain ⟨v, e1, r⟩ := A.sl i _ e
  cases (show v = _ from r)
  exact ⟨_, e1, h f X S H σ _ A fun v S1 H1 d Γ1 ⟨b, ed, h1⟩ A1 _ r1 => by
    subst ed
    exact ⟨a, b, rfl, r1, E.nx S1 H1 _ _ h1 (A1.set_dat hi (d := .int (g a b)) rfl)⟩⟩
theorem sg_raise {c : Str} (h : z.Xe (.bare c) Γ) : SG z (fun _ σ H => z.W (.ref (He.ga z.K c)) none σ H) Γ G := fun f X S H σ D A E => X (.bare c) S H σ Γ _ _ h A ⟨rfl, rfl⟩

/-! ### loops -/
theorem At.refit {K : PySem.W.Frag} {n : Nat} (A : At K n f S H σ Γ) : At K n ⟨S, f.H, f.own⟩ S H σ Γ where
  sub := Ex.refl S
  ex := A.ex
  keep := A.keep
  fresh := fun a o h => .inl h
  stay := A.stay
  len := A.len
  nd := A.nd
  sys := A.sys
  sl := fun i s e => by
    have q := A.sl i s e
    cases s with
    | own l p o => cases l <;> exact q
    | gh l p o => cases l <;> exact q
    | _ => exact q
theorem At.unfit {K : PySem.W.Frag} {n : Nat} {S1 : Hp} {Γ1 : List Sl} {σ1 : St} {H1 : Hp} (A : At K n f S H σ Γ) (B : At K n ⟨S, f.H, f.own⟩ S1 H1 σ1 Γ1) : At K n f S1 H1 σ1 Γ1 where
  sub := A.sub.trans B.sub
  ex := B.ex
  keep := B.keep
  fresh := fun a o h => by
    rcases B.fresh a o h with q | q
    · exact A.fresh a o q
    · exact .inr q
  stay := B.stay
  len := B.len
  nd := B.nd
  sys := A.sys
  sl := fun i s e => by
    have q := B.sl i s e
    cases s with
    | own l p o => cases l <;> exact q
    | gh l p o => cases l <;> exact q
    | _ => exact q
theorem XOk.refit (X : XOk z f) (A : AtZ z f S H σ Γ) : XOk z ⟨S, f.H, f.own⟩ := fun x S1 H1 σ1 Γ1 c d h B => X x S1 H1 σ1 Γ1 c d h (A.unfit B)
structure JOk (K : PySem.W.Frag) (S1 : Hp) (J : It) (ds : List D) : Prop where
  go : ∀ i H, Ex S1 H → i < ds.length → J.go i H
  stop : ∀ H, Ex S1 H → J.stop ds.length H
  yld : ∀ i H x H', Ex S1 H → i < ds.length → J.yld i H x H' → ∃ d, ds[i]? = some d ∧ ((H' = H ∧ Rep K S1 d x) ∨ ∃ T u, H T = none ∧ H' = upd H T u ∧ ∀ S2, Ex S1 S2 → S2 T = some u → Rep K S2 d x)
def IGz (z : Zx) (wi : TI) (Γ : List Sl) (Φ : List D → List Sl → Prop) : Prop := ∀ f, XOk z f → ∀ S H σ (R : It → Hp → Prop), AtZ z f S H σ Γ → (∀ J S2 H2 ds Γ2, Φ ds Γ2 → AtZ z f S2 H2 σ Γ2 → Ex S S2 → JOk z.K S2 J ds → R J H2) → wi σ H R
theorem sg_for {wi : TI} {g : TG} {tb : TS} (h : IGz z wi Γ fun ds Γ1 => ∃ I : Nat → List Sl → Prop, I 0 Γ1 ∧ (∀ (i : Nat) d Γ2, ds[i]? = some d → I i Γ2 → GGz z g d Γ2 fun Γ3 => SG z tb Γ3 { G with nx := I (i + 1), ct := I (i + 1), bk := G.nx }) ∧ ∀ Γ2, I ds.length Γ2 → G.nx Γ2) :
    SG z (tFor wi g tb) Γ G := fun f X S H σ D A E =>
  h f X S H σ _ A fun J S1 H1 ds Γ1 ⟨I, h0, hs, hd⟩ A1 e1 j => by
    refine ⟨fun i m σ H => m = ds.length - i ∧ i ≤ ds.length ∧ ∃ S' Γ', I i Γ' ∧ AtZ z ⟨S1, f.H, f.own⟩ S' H σ Γ', ⟨ds.length, by simp, Nat.zero_le _, S1, Γ1, h0, A1.refit⟩, ?_⟩
    rintro i m σ2 H2 ⟨rfl, hi, S2, Γ2, hI, A2⟩
    have xh : Ex S1 H2 := A2.sub.trans A2.ex
    by_cases hlt : i < ds.length
    · refine .inr ⟨j.go i H2 xh hlt, fun σ' H' => ∃ S' Γ', I (i + 1) Γ' ∧ AtZ z ⟨S1, f.H, f.own⟩ S' H' σ' Γ', fun σ' H' p => ⟨ds.length - (i + 1), by omega, rfl, hlt, p⟩, fun x H' y => ?_⟩
      have X' := X.refit A1
      have run : ∀ {S3 H3 v d}, ds[i]? = some d → AtZ z ⟨S1, f.H, f.own⟩ S3 H3 σ2 Γ2 → Rep z.K S3 d v → g v σ2 H3 fun σ3 H4 => tb { D with nx := fun σ' H' => ∃ S' Γ', I (i + 1) Γ' ∧ AtZ z ⟨S1, f.H, f.own⟩ S' H' σ' Γ', ct := fun σ' H' => ∃ S' Γ', I (i + 1) Γ' ∧ AtZ z ⟨S1, f.H, f.own⟩ S' H' σ' Γ', bk := D.nx } σ3 H4 := fun {S3 H3 v d} hd' A3 r =>
        hs i d Γ2 hd' hI _ X' S3 H3 σ2 v _ A3 r fun S4 H4 σ4 Γ4 h4 A4 _ => h4 _ X' S4 H4 σ4 _ A4 ⟨fun S' H' σ' Γ' q B => ⟨S', Γ', q, B⟩, fun S' H' σ' Γ' d v q B r => E.rt S' H' σ' Γ' d v q (A1.unfit B) r,
          fun S' H' σ' Γ' p o q B n1 n2 n3 r => E.rto S' H' σ' Γ' p o q (A1.unfit B) n1 n2 n3 r, fun S' H' σ' Γ' q B => E.nx S' H' σ' Γ' q (A1.unfit B), fun S' H' σ' Γ' q B => ⟨S', Γ', q, B⟩⟩
      obtain ⟨d, hd', hy⟩ := j.yld i H2 x H' xh hlt y
      rcases hy with ⟨rfl, r⟩ | ⟨T, u, hT, rfl, r⟩
      · exact run hd' A2 (r.mono A2.sub d)
      · have sT : S2 T = none := A2.ex.none hT
        exact run hd' (A2.laid hT) (r _ (A2.sub.trans ((Ex.refl S2).upd sT)) upd_same)
    · have e : i = ds.length := by omega
      subst e
      exact .inl ⟨j.stop H2 xh, E.nx S2 H2 σ2 Γ2 (hd Γ2 hI) (A1.unfit A2)⟩
theorem ig_list {tl : TE} {Φi : List D → List Sl → Prop} (h : EG z tl Γ fun d Γ1 => ∃ ds, (d = .lst ds ∨ d = .fro ds) ∧ Φi ds Γ1) : IGz z (iList z.K tl) Γ Φi := fun f X S H σ R A k =>
  h f X S H σ _ A fun v S1 H1 d Γ1 ⟨ds, hd, h1⟩ A1 e1 r => by
    have key : ∃ a vs, v = .ref a ∧ SqL z.K S1 a vs ∧ RepL z.K S1 ds vs := by
      rcases hd with rfl | rfl
      · obtain ⟨a, vs, rfl, g1, g2⟩ := r
        exact ⟨a, vs, rfl, SqL.of g1, g2⟩
      · exact r
    obtain ⟨a, vs, rfl, g1, g2⟩ := key
    refine ⟨a, rfl, ⟨vs, A1.ex.l g1⟩, k _ S1 H1 ds Γ1 h1 A1 e1 ⟨fun i H' x hi => ?_, fun H' x => ⟨vs, x.l g1, Nat.le_of_eq g2.length⟩, fun i H' x H'' xe hi y => ?_⟩⟩
    · obtain ⟨v, e, _⟩ := g2.get (List.getElem?_eq_getElem hi)
      exact ⟨vs, v, x.l g1, e⟩
    · obtain ⟨rfl, y⟩ := y
      obtain ⟨d, e, r⟩ := g2.get' (y vs (xe.l g1))
      exact ⟨d, e, .inl ⟨rfl, r⟩⟩
theorem ig_tup {tl : TE} {Φi : List D → List Sl → Prop} (h : EG z tl Γ fun d Γ1 => ∃ ds, d = .tup ds ∧ Φi ds Γ1) : IGz z (iTup z.K tl) Γ Φi := fun f X S H σ R A k =>
  h f X S H σ _ A fun v S1 H1 d Γ1 ⟨ds, hd, h1⟩ A1 e1 r => by
    subst hd
    obtain ⟨a, vs, rfl, g1, g2⟩ := r
    have g1 : SqT z.K S1 a vs := SqT.of g1
    refine ⟨a, rfl, ⟨vs, A1.ex.t g1⟩, k _ S1 H1 ds Γ1 h1 A1 e1 ⟨fun i H' x hi => ?_, fun H' x => ⟨vs, x.t g1, Nat.le_of_eq g2.length⟩, fun i H' x H'' xe hi y => ?_⟩⟩
    · obtain ⟨v, e, _⟩ := g2.get (List.getElem?_eq_getElem hi)
      exact ⟨vs, v, x.t g1, e⟩
    · obtain ⟨rfl, y⟩ := y
      obtain ⟨d, e, r⟩ := g2.get' (y vs (xe.t g1))
      exact ⟨d, e, .inl ⟨rfl, r⟩⟩
/-- the numbers from lo on, n of them -/
def rng (lo : Int) (n : Nat) : List D := (List.range n).map fun i => D.int (lo + (i : Nat))
theorem rng_length (lo : Int) (n : Nat) : (rng lo n).length = n := by unfold rng; rw [List.length_map, List.length_range]
theorem rng_get {lo : Int} {n i : Nat} {d : D} (h : (rng lo n)[i]? = some d) : i < n ∧ d = .int (lo + (i : Nat)) := by
  unfold rng at h
  rw [List.getElem?_map] at h
  by_cases hi : i < n
  · rw [List.getElem?_range hi] at h
    exact ⟨hi, (Option.some.inj h).symm⟩
  · rw [List.getElem?_eq_none (by rw [List.length_range]; omega)] at h
    cases h
theorem jok_rng {K : PySem.W.Frag} (S1 : Hp) (lo : Int) (n : Nat) : JOk K S1 (Itr lo n) (rng lo n) where
  go := fun i H _ hi => by rw [rng_length] at hi; exact hi
  stop := fun H _ => by rw [rng_length]; exact Nat.le_refl n
  yld := fun i H x H' _ hi y => by
    rw [rng_length] at hi
    obtain ⟨rfl, rfl⟩ := y
    refine ⟨.int (lo + (i : Nat)), ?_, .inl ⟨rfl, rfl⟩⟩
    unfold rng
    rw [List.getElem?_map, List.getElem?_range hi]
    rfl
theorem ig_range1 {Φi : List D → List Sl → Prop} (h : AGz z ta Γ fun as Γ1 => ∃ j : Int, as = [.dat (.int j)] ∧ -4611686018427387904 ≤ j ∧ j < 4611686018427387904 ∧ Φi (rng 0 j.toNat) Γ1) : IGz z (iRng1 ta) Γ Φi := fun f X S H σ R A k =>
  h f X S H σ _ A fun vs S1 H1 as Γ1 ⟨j, e, b1, b2, h1⟩ A1 e1 r => by
    subst e
    obtain ⟨v, _, rfl, r1, rfl⟩ := r
    cases (show v = _ from r1)
    exact ⟨j, rfl, b1, b2, k _ S1 H1 _ Γ1 h1 A1 e1 (jok_rng S1 0 j.toNat)⟩
theorem ig_range2 {Φi : List D → List Sl → Prop} (h : AGz z ta Γ fun as Γ1 => ∃ i j : Int, as = [.dat (.int i), .dat (.int j)] ∧ (-4611686018427387904 ≤ i ∧ i < 4611686018427387904 ∧ -4611686018427387904 ≤ j ∧ j < 4611686018427387904) ∧ Φi (rng i (j - i).toNat) Γ1) : IGz z (iRng2 ta) Γ Φi := fun f X S H σ R A k =>
  h f X S H σ _ A fun vs S1 H1 as Γ1 ⟨i, j, e, b, h1⟩ A1 e1 r => by
    subst e
    obtain ⟨v, _, rfl, r1, w, _, rfl, r2, rfl⟩ := r
    cases (show v = _ from r1)
    cases (show w = _ from r2)
    exact ⟨i, j, rfl, b, k _ S1 H1 _ Γ1 h1 A1 e1 (jok_rng S1 i _)⟩
/-- a while by an invariant and a measure -/
theorem sg_while {tb : TS} (I : Nat → List Sl → Prop) {m0 : Nat} (h0 : I m0 Γ)
    (hs : ∀ m Γ, I m Γ → TGz z tt Γ fun b Γ1 => (b = true → SG z tb Γ1 { G with nx := fun Γ2 => ∃ m', m' < m ∧ I m' Γ2, ct := fun Γ2 => ∃ m', m' < m ∧ I m' Γ2, bk := G.nx }) ∧ (b = false → G.nx Γ1)) :
    SG z (tWhile tt tb) Γ G := fun f X S H σ D A E => by
  refine ⟨fun m σ H => ∃ S Γ, I m Γ ∧ AtZ z f S H σ Γ, ⟨m0, S, Γ, h0, A⟩, ?_⟩
  rintro m σ1 H1 ⟨S1, Γ1, hI, A1⟩
  refine hs m Γ1 hI f X S1 H1 σ1 _ A1 fun b S2 H2 Γ2 ⟨h1, h2⟩ A2 _ => ?_
  cases b with
  | true =>
    show ∃ N : St → Hp → Prop, _ ∧ _
    refine ⟨fun σ' H' => ∃ m', m' < m ∧ ∃ S Γ, I m' Γ ∧ AtZ z f S H' σ' Γ, fun σ' H' ⟨m', l, q⟩ => ⟨m', l, q⟩, ?_⟩
    exact h1 rfl f X S2 H2 σ1 _ A2 ⟨fun S' H' σ' Γ' ⟨m', l, q⟩ B => ⟨m', l, S', Γ', q, B⟩, E.rt, E.rto, fun S' H' σ' Γ' q B => E.nx S' H' σ' Γ' q B, fun S' H' σ' Γ' ⟨m', l, q⟩ B => ⟨m', l, S', Γ', q, B⟩⟩
  | false => exact E.nx S2 H2 σ1 Γ2 (h2 rfl) A2

/-! ### the pen, seen and closed; other views -/
theorem sg_see {i : Nat} {l : Bool} {p : Addr} {o o' : Ob} (e : Γ[i]? = some (.own l p o)) (hr : ∀ S H, ObRep z.K S H p o → ObRep z.K S H p o') (h : SG z t (Γ.set i (.own l p o')) G) : SG z t Γ G := fun f X S H σ D A E => h f X S H σ D (A.see e (hr S H)) E
theorem sg_pen {i : Nat} {l : Bool} {p : Addr} {k : Nat} (e : Γ[i]? = some (.own l p (.pen k))) (h : ∀ cs x n, PenOk k cs x n → SG z t (Γ.set i (.own l p (.lst [.lst (cs.map D.int), .int x, .int n]))) G) : SG z t Γ G := fun f X S H σ D A E => by
  obtain ⟨q1, q2, q3, cs', x', n', vs', hp', g1, g2⟩ := A.sl i _ e
  refine h cs' x' n' hp' f X S H σ D ?_ E
  exact
    { sub := A.sub, ex := A.ex, keep := A.keep, fresh := A.fresh, stay := A.stay, len := A.len,
      nd := by
        rw [owns_reset (s' := .own l p (.lst [.lst (cs'.map Z.D.int), .int x', .int n'])) e rfl]
        exact A.nd,
      sys := A.sys,
      sl := fun j s e2 => by
        rcases get_set e2 with ⟨rfl, rfl⟩ | ⟨ne, e3⟩
        · exact ⟨q1, q2, q3, vs', g1, g2⟩
        · exact A.sl j s e3 }
theorem penLe {K : PySem.W.Frag} {S H : Hp} {p : Addr} {k k' : Nat} (h : k ≤ k') (h' : k' ≤ 1000000000000) : ObRep K S H p (.pen k) → ObRep K S H p (.pen k')
  | ⟨cs, i, n, vs, ⟨a, b, c, d, e⟩, q⟩ => ⟨cs, i, n, vs, ⟨a, by omega, h', d, e⟩, q⟩
theorem penOf {K : PySem.W.Frag} {S H : Hp} {p : Addr} {k : Nat} {cs : List Int} {i n : Int} (h : PenOk k cs i n) : ObRep K S H p (.lst [.lst (cs.map D.int), .int i, .int n]) → ObRep K S H p (.pen k)
  | ⟨vs, q, r⟩ => ⟨cs, i, n, vs, h, q, r⟩
theorem eo_see {o : Ob} (hr : ∀ S H p o, Φo o Γ → ObRep z.K S H p o → True) (h : EO z te Γ Φo) : EO z te Γ Φo := h
theorem eo_imp {Φ' : Ob → List Sl → Prop} (h : EO z te Γ fun o Γ1 => ∃ o', (∀ S H p, ObRep z.K S H p o → ObRep z.K S H p o') ∧ Φ' o' Γ1) : EO z te Γ Φ' := fun f X S H σ Q A k =>
  h f X S H σ _ A fun p S2 H2 o Γ2 ⟨o', hr, h1⟩ A2 e n1 n2 n3 r => k p S2 H2 o' Γ2 h1 A2 e n1 n2 n3 (hr S2 H2 p r)
/-- a new object of one's own comes to rest in its slot -/
theorem sg_rest {i : Nat} {p : Addr} {o : Ob} {d : D} (e : Γ[i]? = some (.own true p o)) (hi : i < z.n) (hd : o.data = some d) (h : SG z t (Γ.set i (.dat d)) G) : SG z t Γ G := fun f X S H σ D A E => by
  obtain ⟨e1, g1, g2, g3⟩ := A.sl i _ e
  obtain ⟨u, hu, rr⟩ := g3.data hd
  have x : Ex S (upd S p u) := (Ex.refl S).upd g1
  have B := ((A.drop i).rest (not_owned A.nd e rfl) g1 g2 hu)
  refine h f X (upd S p u) H σ D ?_ E
  have B' := B.set_dat (i := i) hi (rr _ x upd_same)
  have es : σ.set i (some (.ref p)) = σ := by
    apply List.ext_getElem?
    intro j
    by_cases hj : j = i
    · subst hj
      rw [List.getElem?_set_self (by rw [A.len]; exact hi), e1]
    · rw [List.getElem?_set_ne (Ne.symm hj)]
  rw [es, List.set_set] at B'
  exact B'
end
end Z
/-! Layer Z, part F: defs by their names, the facts of the top, the end. -/
namespace Z
open PySem PySem.Spec PyProof.Rows L2
/-! ### the facts of the top -/
def obsZ (fb : PySem.W.Frag → Bool) (fn : List He.DefD) (K : PySem.W.Frag) : He.AlD := (fb K && fn.all fun d => d.ok K, fn.map fun d => He.fnW K d.at_)
def SaysZ (fb : PySem.W.Frag → Bool) (fn : List He.DefD) (K : PySem.W.Frag) : Prop := obsZ fb fn K = He.valD fn
def sysB (g : Addr → Option Obj) : Bool := match g 1 with
  | some ⟨.type c, _, _, _⟩ => decide (c = "dict")
  | _ => false
theorem sysB_ok {g : Addr → Option Obj} (h : sysB g = true) : ∃ o, g 1 = some o ∧ o.cls = .type "dict" := by
  unfold sysB at h
  cases q : g 1 with
  | none =>
    rw [q] at h
    cases h
  | some o =>
    obtain ⟨oc, od, dt, sl⟩ := o
    rw [q] at h
    cases oc with
    | type c => exact ⟨_, rfl, congrArg Value.type (of_decide_eq_true h)⟩
    | _ => cases h
def frZ (n : Nat) (g : Addr → Option Obj) : PySem.W.Frag := He.frG g ((He.asD g n).filter fun a => a != 1)
theorem frG_out {g : Addr → Option Obj} {b : Addr} : ∀ as : List Addr, b ∉ as → (He.frG g as).lookup b = none
  | [], _ => rfl
  | a :: r, h => by
    have ih := frG_out (g := g) r fun m => h (List.mem_cons_of_mem _ m)
    unfold He.frG at ih ⊢
    cases q : g a with
    | none =>
      rw [List.filterMap_cons, q]
      exact ih
    | some o =>
      rw [List.filterMap_cons, q]
      show (match b == a with | true => some o | false => _) = none
      have e : (b == a) = false := beq_eq_false_iff_ne.mpr fun e => h (by rw [e]; exact List.mem_cons_self)
      rw [e]
      exact ih
def obsZG (n : Nat) (fb : PySem.W.Frag → Bool) (fn : List He.DefD) (g : Addr → Option Obj) : Bool × He.AlD := (sysB g, obsZ fb fn (frZ n g))
def hookZ (n : Nat) (fb : PySem.W.Frag → Bool) (fn : List He.DefD) : PySem.W.Hook where
  α := Bool × He.AlD
  obs := fun s => obsZG n fb fn s.heap.get?
  val := fun _ => (true, He.valD fn)
  says := fun _ h => ∃ K : PySem.W.Frag, K.In h ∧ SaysZ fb fn K ∧ K.lookup 1 = none ∧ ∃ o, h.get? 1 = some o ∧ o.cls = .type "dict"
  of := fun _ s e => ⟨frZ n s.heap.get?, He.frG_in, congrArg (fun x : Bool × He.AlD => x.2) e, frG_out _ (fun m => by
    have z := (List.mem_filter.mp m).2
    simp at z), sysB_ok (congrArg (fun x : Bool × He.AlD => x.1) e)⟩
  keeps := fun _ _ _ ⟨K, hK, c, a, o, e1, e2⟩ k => ⟨K, PySem.W.Frag.In.keeps hK k, c, a, o, k _ _ e1, e2⟩
theorem obsZG_eq {n : Nat} {fb : PySem.W.Frag → Bool} {fn : List He.DefD} {g : Addr → Option Obj} {s : Shared} (h : ∀ a, g a = s.heap.get? a) : obsZG n fb fn g = (hookZ n fb fn).obs s := by
  have e : g = s.heap.get? := funext h
  rw [e] <;> rfl
section
variable {fb : PySem.W.Frag → Bool} {fn : List He.DefD} {K : PySem.W.Frag}
theorem SaysZ.facts (c : SaysZ fb fn K) : fb K = true :=
  (He.ba (show (fb K && fn.all fun d => d.ok K) = true from congrArg (fun x : He.AlD => x.1) c)).1
theorem SaysZ.def_ (c : SaysZ fb fn K) (i : Nat) {d : He.DefD} (h : fn[i]? = some d := by rfl) : ∃ fd, FunD K d.name d.qual d.params d.body d.scope (d.dvs K) (d.kws K) (He.fAd K d.at_) fd := by
  have all := (He.ba (show (fb K && fn.all fun d => d.ok K) = true from congrArg (fun x : He.AlD => x.1) c)).2
  have e : fn.map (fun d => He.fnW K d.at_) = fn.map He.DefD.val := congrArg (fun x : He.AlD => x.2) c
  have e2 : (fn.map fun d => He.fnW K d.at_)[i]? = (fn.map He.DefD.val)[i]? := by rw [e]
  rw [List.getElem?_map, List.getElem?_map, h] at e2
  exact He.DefD.funD (Option.some.inj e2) (List.all_eq_true.mp all d (List.mem_of_getElem? h))
end
/-- an own class of exceptions -/
structure Xc (K : PySem.W.Frag) (mg : Str → Option Value) (x : Str) : Prop where
  g : mg x = some (.ref (He.ga K x))
  e : PySem.W.excIn K (He.ga K x) He.veBase "ValueError.__new__" = true
  k : PySem.W.keepIn K (.ref (He.ga K x)) = true
  b : PySem.W.subIn K (.ref (He.ga K x)) (.type "BaseException") = some true
  t : PySem.W.typeIn K (.ref (He.ga K x)) = some (.type "type")
/-- how a class of exceptions looks its instances up -/
def excB (x : Str) (K : PySem.W.Frag) : Bool :=
  He.eqO (PySem.W.findIn K (.ref (He.ga K x)) "__getattribute__") (some (some (.builtin "BaseException.__getattribute__"))) && (He.eqO (PySem.W.findIn K (.ref (He.ga K x)) "__getattr__") (some none) &&
    (PySem.W.hasDictIn K (He.ga K x) && (He.eqO (PySem.W.findIn K (.ref (He.ga K x)) "__class__") (some (some (.builtin "object.__class__"))) &&
      (He.eqO (PySem.W.specialIn K (.builtin "object.__class__") "__get__") (some (some (.builtin "getset_descriptor.__get__"))) && (decide (PySem.W.takesIn K (.builtin "object.__class__") = some true) && decide (PySem.W.mroIn K (He.ga K x) (.type "object") = some true))))))
theorem excB_ok {x : Str} {K : PySem.W.Frag} (h : excB x K = true) (hb : PySem.W.subIn K (.ref (He.ga K x)) (.type "BaseException") = some true) : ExcC K (He.ga K x) := by
  obtain ⟨h1, h⟩ := He.ba h
  obtain ⟨h2, h⟩ := He.ba h
  obtain ⟨h3, h⟩ := He.ba h
  obtain ⟨h4, h⟩ := He.ba h
  obtain ⟨h5, h⟩ := He.ba h
  obtain ⟨h6, h7⟩ := He.ba h
  exact ⟨He.eqO_ok h1, He.eqO_ok h2, hb, h3, He.eqO_ok h4, He.eqO_ok h5, of_decide_eq_true h6, of_decide_eq_true h7⟩
/-- .. an own class of instances -/
def insB (x : Str) (K : PySem.W.Frag) : Bool :=
  He.eqO (PySem.W.findIn K (.ref (He.ga K x)) "__class__") (some (some (.builtin "object.__class__"))) &&
    (He.eqO (PySem.W.specialIn K (.builtin "object.__class__") "__get__") (some (some (.builtin "getset_descriptor.__get__"))) && (decide (PySem.W.takesIn K (.builtin "object.__class__") = some true) && decide (PySem.W.mroIn K (He.ga K x) (.type "object") = some true)))
structure Ic (K : PySem.W.Frag) (x : Str) : Prop where
  cl : Cls K (He.ga K x)
  ha : PySem.W.findIn K (.ref (He.ga K x)) "__class__" = some (some (.builtin "object.__class__"))
  hn : PySem.W.specialIn K (.builtin "object.__class__") "__get__" = some (some (.builtin "getset_descriptor.__get__"))
  ht : PySem.W.takesIn K (.builtin "object.__class__") = some true
  hm : PySem.W.mroIn K (He.ga K x) (.type "object") = some true
theorem insB_ok {x : Str} {K : PySem.W.Frag} (h : insB x K = true) (c : Cls K (He.ga K x)) : Ic K x := by
  obtain ⟨h1, h⟩ := He.ba h
  obtain ⟨h2, h⟩ := He.ba h
  obtain ⟨h3, h4⟩ := He.ba h
  exact ⟨c, He.eqO_ok h1, He.eqO_ok h2, of_decide_eq_true h3, of_decide_eq_true h4⟩
/-- isinstance's answer for the class x against the class (or type) c -/
def kitF (x : Str) (c : PySem.W.Frag → Value) (b : Bool) (K : PySem.W.Frag) : Bool := decide (PySem.W.kitOne K (.ref (He.ga K x)) (c K) = some b)
def clsOf (x : Str) (K : PySem.W.Frag) : Value := .ref (He.ga K x)
def typOf (x : String) (_ : PySem.W.Frag) : Value := .type x

/-! ### defs by their names -/
/-- the def x (a global's name) keeps the promise Ψ -/
structure DefOk (P : Program) (w : World) (K : PySem.W.Frag) (mg : Str → Option Value) (base : Heap) (k : Nat) (x : Str) (ps : List Str) (Ψ : Pr) : Prop where
  ex : ∃ fd, FnG P w K mg base k (He.ga K x) fd ps (spZ K Ψ) ∧ Binds K fd ps [] ∧ PySem.W.keepIn K (.ref (He.ga K x)) = true
  g : mg x = some (.ref (He.ga K x))
/-- the method m of the class c -/
structure MetOk (P : Program) (w : World) (K : PySem.W.Frag) (mg : Str → Option Value) (base : Heap) (k : Nat) (c m : Str) (ps : List Str) (Ψ : Pr) : Prop where
  ex : ∃ fd, FnG P w K mg base k (He.ma K (He.ga K c) m) fd ps (spZ K Ψ) ∧ Binds K fd ps []
  cl : Cls K (He.ga K c)
  mt : Meth K (He.ga K c) m (He.ma K (He.ga K c) m)
/-- the class c's __init__ -/
structure IniOk (P : Program) (w : World) (K : PySem.W.Frag) (mg : Str → Option Value) (base : Heap) (k : Nat) (c : Str) (ps : List Str) (Ψ : Pr) : Prop where
  ex : ∃ fd, FnG P w K mg base k (He.ma K (He.ga K c) "__init__") fd ps (spZ K Ψ) ∧ Binds K fd ps []
  made : Mk K (He.ga K c) (He.ma K (He.ga K c) "__init__")
  g : mg c = some (.ref (He.ga K c))
section
variable {X : Cx} {k j : Nat} {c x m : Str} {ps : List Str} {Ψ : Pr} {E : L2.St → XK} {p pos apos : Pos} {e o : Expr} {es : List Expr} {ta : TE} {t : TA}
theorem pd_call (F : DefOk X.prog X.w X.K X.mg X.base k x ps Ψ) (hr : RoomG j X.A) (hk : k ≤ j) (hg : Gl X x) (hx : LetsS X E)
    (ha : PA X (e :: es) t) (hdb : (x == ("__debug__" : Str)) = false := by decide) (he : starEach (e :: es) X.env = (false, eval e X.env) :: starEach es X.env := by rfl)
    (hpl : (backTo pos (starEach es X.env)).any (·.1) = false := by rfl) : PE X (.Call (.Name x p) (e :: es) [] pos) (zCall (spZ X.K Ψ) [] E t) := by
  obtain ⟨fd, h1, h2, h3⟩ := F.ex
  exact pz_call h1 (hr.mono hk) hg F.g h3 h2 .nil hx ha hdb he hpl
theorem pd_call0 (F : DefOk X.prog X.w X.K X.mg X.base k x ps Ψ) (hr : RoomG j X.A) (hk : k ≤ j) (hg : Gl X x) (hx : LetsS X E)
    (hdb : (x == ("__debug__" : Str)) = false := by decide) : PE X (.Call (.Name x p) [] [] pos) (zCall (spZ X.K Ψ) [] E tNil) := by
  obtain ⟨fd, h1, h2, h3⟩ := F.ex
  exact pz_call0 h1 (hr.mono hk) hg F.g h3 h2 .nil hx hdb
theorem pd_meth {pl : Sem Bool} (F : MetOk X.prog X.w X.K X.mg X.base k c m ps Ψ) (hr : RoomG j X.A) (hk : k ≤ j) (hx : LetsS X E) (ho : PE X o ta) (ha : PA X (e :: es) t)
    (hst : starEach (e :: es) X.env = (false, eval e X.env) :: starEach es X.env := by rfl) (hpl : (backTo pos (starEach es X.env)).any (·.1) = false := by rfl)
    (ht : eval (.Call (.Attribute o m apos) (e :: es) [] pos) X.env = (do
        let ov ← eval o X.env
        standAt apos.atName
        let (g, first) ← holding [ov] (getMethod ov m pl)
        callWith pos g first (backTo pos (starEach (e :: es) X.env)) (backToKw pos (keywordEach [] X.env))) := by rfl) :
    PE X (.Call (.Attribute o m apos) (e :: es) [] pos) (zMeth (He.ga X.K c) m (spZ X.K Ψ) [] E ta t) := by
  obtain ⟨fd, h1, h2⟩ := F.ex
  exact pz_meth (pl := pl) ho F.cl F.mt h1 (hr.mono hk) h2 .nil hx ha hst hpl ht
theorem pd_meth0 {pl : Sem Bool} (F : MetOk X.prog X.w X.K X.mg X.base k c m ps Ψ) (hr : RoomG j X.A) (hk : k ≤ j) (hx : LetsS X E) (ho : PE X o ta)
    (ht : eval (.Call (.Attribute o m apos) [] [] pos) X.env = (do
        let ov ← eval o X.env
        standAt apos.atName
        let (g, first) ← holding [ov] (getMethod ov m pl)
        callWith pos g first (backTo pos (starEach [] X.env)) (backToKw pos (keywordEach [] X.env))) := by rfl) :
    PE X (.Call (.Attribute o m apos) [] [] pos) (zMeth (He.ga X.K c) m (spZ X.K Ψ) [] E ta tNil) := by
  obtain ⟨fd, h1, h2⟩ := F.ex
  exact pz_meth0 (pl := pl) ho F.cl F.mt h1 (hr.mono hk) h2 .nil hx ht
theorem pd_make (F : IniOk X.prog X.w X.K X.mg X.base k c ps Ψ) (hr : RoomG j X.A) (hk : k + 1 ≤ j) (hg : Gl X c) (hx : LetsS X E)
    (ha : PA X (e :: es) t) (hdb : (c == ("__debug__" : Str)) = false := by decide) (he : starEach (e :: es) X.env = (false, eval e X.env) :: starEach es X.env := by rfl)
    (hpl : (backTo pos (starEach es X.env)).any (·.1) = false := by rfl) : PE X (.Call (.Name c p) (e :: es) [] pos) (zMake (He.ga X.K c) (spZ X.K Ψ) [] E t) := by
  obtain ⟨fd, h1, h2⟩ := F.ex
  exact pz_make F.made h1 (hr.mono hk) hg F.g h2 .nil hx ha hdb he hpl
theorem pd_make0 (F : IniOk X.prog X.w X.K X.mg X.base k c ps Ψ) (hr : RoomG j X.A) (hk : k + 1 ≤ j) (hg : Gl X c) (hx : LetsS X E)
    (hdb : (c == ("__debug__" : Str)) = false := by decide) : PE X (.Call (.Name c p) [] [] pos) (zMake (He.ga X.K c) (spZ X.K Ψ) [] E tNil) := by
  obtain ⟨fd, h1, h2⟩ := F.ex
  exact pz_make0 F.made h1 (hr.mono hk) hg F.g h2 .nil hx hdb
/-- raise X('..') -/
theorem px_raise {W : WX} {s : Str} {n : Nat} {p2 q : Pos} (F : Xc X.K X.mg x) (hc : X.calm = true) (tk : Takes X W) (hg : Gl X x) (hdb : (x == ("__debug__" : Str)) = false := by decide) :
    PS X (.Raise (some (.Call (.Name x p) [.Constant (.str s) n p2] [] pos)) none q) (fun _ σ H => W (.ref (He.ga X.K x)) none σ H) :=
  ps_raise hc tk (pmk_own PySem.F.excBase_ValueError F.e F.g F.k (raises_own F.b F.t) hg hdb)
/-! ### names of the module, of the built-ins -/
theorem pe_gs {v : Str} (h : ∃ t, X.mg x = some (.str v t)) (hg : Gl X x) (hdb : (x == ("__debug__" : Str)) = false := by decide) : PE X (.Name x pos) (tC (.str v)) := by
  obtain ⟨t, e⟩ := h
  exact pe_glob hg e ⟨t, rfl⟩ hdb
theorem pe_gi {v : Int} (h : ∃ t, X.mg x = some (.int v t)) (hg : Gl X x) (hdb : (x == ("__debug__" : Str)) = false := by decide) : PE X (.Name x pos) (tC (.int v)) := by
  obtain ⟨t, e⟩ := h
  exact pe_glob hg e ⟨t, rfl⟩ hdb
theorem pe_gc {a : Addr} (h : X.mg x = some (.ref a)) (hg : Gl X x) (hdb : (x == ("__debug__" : Str)) = false := by decide) : PE X (.Name x pos) (tC (.ref a)) := pe_glob hg h rfl hdb
theorem pe_ty {T : String} (h : X.mg x = none) (hg : Gl X x) (hv : bootBuiltins x = some (.type T)) (hn : x ≠ "__name__" := by decide) (hdb : (x == ("__debug__" : Str)) = false := by decide) : PE X (.Name x pos) (tC (.ty T)) := pe_bltn (v := .ty T) hg h hv rfl hn hdb
end

/-! ### the end -/
/-- the law's promise: any list of ints comes, True goes -/
def prLaw : Pr := fun as Φ _ => ∃ ns : List Int, as = [.dat (.fro (ns.map D.int))] ∧ ns.length ≤ 63 ∧ Φ (.dat (.bl true)) []
theorem law_callG {P : Program} {w : World} {K : PySem.W.Frag} {mg mb : Str → Option Value} {k : Nat} {fa a : Addr} {fd : FuncData} {x : Str} {s₁ : Shared} {vs : List Value} {ns : List Int}
    (inH : K.In s₁.heap) (hns : s₁.heap.Ns mainGlobals mg) (hb : s₁.heap.Ns builtinsNs mb) (hbb : ∀ x : Str, x ≠ "__name__" → mb x = bootBuiltins x) (hlim : s₁.heap.NoLimit) (hg : s₁.gens = #[])
    (away1 : K.lookup 1 = none) (hsys : ∃ o, s₁.heap.get? 1 = some o ∧ o.cls = .type "dict")
    (ha : s₁.heap.get? a = some { cls := .type "list", data := .seq vs.toArray }) (hi : IntsAre vs ns) (hl : ns.length ≤ 63) (hr : RoomG k callerA)
    (F : ∀ base : Heap, K.In base → base.Ns mainGlobals mg → FnG P w K mg base k fa fd [x] (spZ K prLaw)) (hbind : ∀ (s : Shared) (u : Value), BindsTo s fd ⟨[u], []⟩ [(x, u)]) :
    codeAny (model P w) callerA (.call (.ref fa) ⟨[.ref a], []⟩) (fun r s' => r = .ok (.ret (.bool true)) ∧ OldK s₁.heap s'.heap ∧ s'.os = s₁.os ∧ AllBare s'.gens) s₁ := by
  have values := vals_ints hi
  have many := hi.length
  have short : ns.length ≤ sizeLine := Nat.le_trans hl (by decide)
  obtain ⟨o1, sys1, sysc⟩ := hsys
  have apart : a ≠ 1 := fun e => by
    rw [e, sys1] at ha
    cases ha
    exact absurd (Value.type.inj sysc) (by decide)
  -- the script (where it is none of the module's own objects) and the table of modules are tracked
  have core : ∀ H : Hp, (∀ b u, H b = some u → ∃ o v, u = .frz o v) → SqL K H a (ns.map V.int) → HOk P w H s₁.heap → (∀ b, H b ≠ none → b = a ∨ b = 1) → (H a ≠ none → K.lookup a = none) → (∃ o φ, H 1 = some (.frz o (.ext φ))) →
      codeAny (model P w) callerA (.call (.ref fa) ⟨[.ref a], []⟩) (fun r s' => r = .ok (.ret (.bool true)) ∧ OldK s₁.heap s'.heap ∧ s'.os = s₁.os ∧ AllBare s'.gens) s₁ := by
    intro H only script ok alone away tab
    have notSeq : ∀ {b : Addr} {o : Obj} {es : Array DictEntry} {ep : Nat}, b ≠ 1 → s₁.heap.get? b = some o → o.data = .dict es ep → H b = none := by
      intro b o es ep n1 e d
      cases q : H b with
      | none => rfl
      | some u =>
        rcases alone b (by rw [q]; simp) with e' | e'
        · rw [e', ha] at e
          cases e
          cases (show Data.seq vs.toArray _ = Data.dict es ep from d)
        · exact absurd e' n1
    have spaces : ∀ {b : Addr} {m : Str → Option Value}, b ≠ 1 → s₁.heap.Ns b m → (hidT s₁.heap H).Ns b m := fun n1 ⟨o, es, ep, e, d, r⟩ => ⟨o, es, ep, hidT_get e (notSeq n1 e d), d, r⟩
    have inB : K.In (hidT s₁.heap H) := by
      intro b o e
      refine hidT_get (inH b o e) ?_
      cases q : H b with
      | none => rfl
      | some u =>
        rcases alone b (by rw [q]; simp) with e' | e'
        · rw [e'] at e
          rw [away (by rw [← e', q]; simp)] at e
          cases e
        · rw [e', away1] at e
          cases e
    have module : Mod K mg (hidT s₁.heap H) := ⟨inB, spaces (by decide) hns, ⟨mb, spaces (by decide) hb, hbb⟩, by
      obtain ⟨mc, h1, h2⟩ := hlim
      exact ⟨mc, spaces (by decide) h1, h2⟩⟩
    have e0 : Env0 P w K mg (hidT s₁.heap H) callerA [] s₁ H := ⟨rfl, module, fun b o e => of_hidT e, Nat.le_of_eq (hidT_size _ _), trivial, fun b hb => absurd (show b ∈ ([] : List Addr) from hb) (by simp), ok, .of_eq hg⟩
    have promise : spZ K prLaw [.ref a] H (fun v _ => v = .bl true) fun _ _ _ => False := by
      refine ⟨H, [.dat (.fro (ns.map D.int))], [], fun r os => r = .dat (.bl true) ∧ os = [], fun _ _ => False, Ex.refl H, tab, List.nodup_nil, ?_, ⟨ns, rfl, hl, rfl, rfl⟩, ?_, ?_, ?_⟩
      · exact ⟨.ref a, [], rfl, ⟨a, _, rfl, script, RepL.ints.mpr rfl⟩, rfl, rfl⟩
      · rintro v S2 H2 d os ⟨e, _⟩ _ r
        cases e
        exact r
      · rintro p S2 H2 o os ⟨e, _⟩
        cases e
      · exact fun _ _ _ _ _ _ q => q.elim
    refine codeAny_mono ((F _ inB (spaces (by decide) hns)).run callerA [] s₁ H ⟨[.ref a], []⟩ [.ref a] [.ref a] _ _ hr e0 (hbind s₁ (.ref a)) (.cons rfl .nil) promise) fun res s' got => ?_
    match res, got with
    | .error ex, q =>
      obtain ⟨_, _, _, _, _, _, _, _, _, _, _, _, y⟩ := q
      exact y.elim
    | .ok .next, q => exact q.elim
    | .ok .brk, q => exact q.elim
    | .ok .cont, q => exact q.elim
    | .ok (.ret u), ⟨v, H', os, bare, un, ok', rel, q⟩ =>
      cases (show v = .bl true from q)
      cases (show u = Value.bool true from rel)
      refine ⟨rfl, OldK.of_keep fun b o e => ?_, os, bare⟩
      cases q : H b with
      | none => exact un.keep b o e q (by intro y; exact absurd (show b ∈ ([] : List Addr) from y) (by simp)) (by simp)
      | some u =>
        obtain ⟨ob, y, rfl⟩ := only b u q
        obtain ⟨e1, _⟩ := ok b _ q
        obtain ⟨e2, _⟩ := ok' b _ (un.frzs b ob _ q)
        rw [e] at e1
        cases e1
        exact e2
  have tabOk : ∀ H : Hp, ObjOk P w H s₁.heap 1 (.frz o1 (.ext fun h => ∃ o, h.get? 1 = some o)) := fun H => ⟨sys1, ⟨o1, sys1⟩, ⟨o1, sys1⟩, fun h1 h2 ⟨o, q⟩ k => ⟨o, k o q⟩⟩
  cases hk : K.lookup a with
  | some o =>
    have e := inH a o hk
    rw [ha] at e
    cases e
    refine core (fun b => if b = 1 then some (.frz o1 (.ext fun h => ∃ o, h.get? 1 = some o)) else none) (fun b u y => ?_) (.inr ⟨_, vs.toArray, _, hk, rfl, rfl, rfl, by rw [List.size_toArray, many]; exact short, by simpa using values⟩) (fun b u y => ?_) (fun b y => ?_) (fun y => absurd (if_neg apart) y) ⟨_, _, if_pos rfl⟩
    · by_cases hb : b = 1
      · cases (if_pos hb).symm.trans y
        exact ⟨_, _, rfl⟩
      · cases (if_neg hb).symm.trans y
    · by_cases hb : b = 1
      · cases (if_pos hb).symm.trans y
        rw [hb]
        exact tabOk _
      · cases (if_neg hb).symm.trans y
    · by_cases hb : b = 1
      · exact .inr hb
      · exact absurd (if_neg hb) y
  | none =>
    refine core (fun b => if b = a then some (.frz { cls := .type "list", data := .seq vs.toArray } (.lst (ns.map V.int))) else if b = 1 then some (.frz o1 (.ext fun h => ∃ o, h.get? 1 = some o)) else none) (fun b u y => ?_) (.inl (.inr ⟨{ cls := .type "list", data := .seq vs.toArray }, if_pos rfl⟩)) (fun b u y => ?_) (fun b y => ?_) (fun _ => hk) ⟨_, _, (if_neg (Ne.symm apart)).trans (if_pos rfl)⟩
    · by_cases hb : b = a
      · cases (if_pos hb).symm.trans y
        exact ⟨_, _, rfl⟩
      · have y := (if_neg hb).symm.trans y
        by_cases hc : b = 1
        · cases (if_pos hc).symm.trans y
          exact ⟨_, _, rfl⟩
        · cases (if_neg hc).symm.trans y
    · by_cases hb : b = a
      · cases (if_pos hb).symm.trans y
        rw [hb]
        exact ⟨ha, by rw [List.length_map]; exact short, vs, _, values, ha⟩
      · have y := (if_neg hb).symm.trans y
        by_cases hc : b = 1
        · cases (if_pos hc).symm.trans y
          rw [hc]
          exact tabOk _
        · cases (if_neg hc).symm.trans y
    · by_cases hb : b = a
      · exact .inl hb
      · by_cases hc : b = 1
        · exact .inr hc
        · exact absurd ((if_neg hb).trans (if_neg hc)) y
theorem walkG {l : PySem.W.OpenLaw} {k : Nat} {q : Program} {loose : List Str} {XP : (Str → Option Value) → Heap → Prop} {YP : World → Heap → Prop} {d : DefRec} {x : Str}
    (hn : l.most = some 63) (hdf : d.params.defaults = []) (hr : RoomG k callerA)
    (F : ∀ (w : World) (mg : Str → Option Value) (fa : Addr) (h : Heap), YP w h → h.Ns mainGlobals mg → mg d.name = some (.ref fa) →
      ∃ (K : PySem.W.Frag) (fd : FuncData), K.In h ∧ K.lookup 1 = none ∧ (∃ o, h.get? 1 = some o ∧ o.cls = .type "dict") ∧ (∀ (s : Shared) (u : Value), BindsTo s fd ⟨[u], []⟩ [(x, u)]) ∧
        ∀ base : Heap, K.In base → base.Ns mainGlobals mg → FnG l.prog w K mg base k fa fd [x] (spZ K prLaw)) :
    PySem.W.WalkO q loose XP YP l.row.toRowW d [] (fun f vs => PySem.call f vs) := by
  refine Att.attach_call hn hdf fun w s₀ s₁ mg mb fa o pm cd doc a vs ns G Y ho hd hcd hmg hobj hints hlen hg => ?_
  obtain ⟨K, fd, inH, a1, a2, hb, hF⟩ := F w mg fa _ Y G.T.g hmg
  exact law_callG inH G.T.g G.T.b G.T.builtins G.T.nolimit hg a1 a2 hobj hints hlen hr hF hb
end Z
/-! Layer Z, part G: further rules of the machine: an error kept, repr, isinstance of an error. -/
namespace Z
open PySem PySem.Spec PyProof.Rows L2
section
variable {X : Cx} {pins : List (Addr × Obj)} {σ : L2.St} {H : Hp} {s : Shared}
/-- an object made behind the entry, so far not told of, is tracked -/
theorem Inv.track {a : Addr} {oe : Obj} {vs : Array Value} {o : HO} (I : Inv X pins σ H s) (ha : s.heap.get? a = some oe) (hd : oe.data = .fields vs) (hn : H a = none) (fresh : X.s_0.heap.get? a = none)
    (nL : a ≠ X.env.locals) (np : ∀ p ∈ X.pn ++ pins, p.1 ≠ a) (ok : ObjOk X.prog X.w (upd H a o) s.heap a o) : Inv X pins σ (upd H a o) s where
  ok := I.ok
  os := I.os
  bare := I.bare
  base := by
    have old : ∀ b ob, X.s_0.heap.get? b = some ob → b ≠ a := fun b ob e q => by
      rw [q, fresh] at e
      cases e
    exact { keep := I.base.keep, slot := I.base.slot, there := I.base.there,
            free := fun b ob e n x => by rw [upd_ne (old b ob e)]; exact I.base.free b ob e n x,
            tups := fun b xs e => by have q := I.base.tups b xs e; rw [upd_ne (ne_of_none q hn)]; exact q,
            frzs := fun b ob u e => by have q := I.base.frzs b ob u e; rw [upd_ne (ne_of_none q hn)]; exact q,
            tbls := fun b ps e => by
              obtain ⟨m, q⟩ := I.base.tbls b ps e
              exact ⟨m, by rw [upd_ne (ne_of_none q hn)]; exact q⟩ }
  loc := I.loc
  cell := I.cell
  free := by rw [upd_ne (Ne.symm nL)]; exact I.free
  freeC := fun x c e => by
    have ne : c ≠ a := fun q => by
      obtain ⟨v, ⟨ob, e1, e2⟩⟩ := I.cell x c e
      rw [q, ha] at e1
      cases e1
      rw [hd] at e2
      cases e2
    rw [upd_ne ne]
    exact I.freeC x c e
  pin := fun p hp => by
    obtain ⟨e1, e2, e3⟩ := I.pin p hp
    exact ⟨e1, by rw [upd_ne (np p hp)]; exact e2, e3⟩
  hok := I.hok.laidN (fun _ _ q => q) hn ok
  len := I.len
end
/-- what the clause 'except c as n: y = n' wishes of an error of the body; i is n's slot, j is y's -/
def wKeep (K : PySem.W.Frag) (c : Value) (i j : Nat) (Wout : WX) (D : Ends) : WX := fun cls d σ H =>
  ∃ b, PySem.W.exmOne K cls c = some b ∧ (b = true → ∀ a, H a = none → D.nx ((σ.set j (some (.ref a))).set i none) (upd H a (ExH cls d a))) ∧ (b = false → Wout cls d σ H)
def tKeep (K : PySem.W.Frag) (c : Value) (i j : Nat) (Wout : WX) (tb : WX → TS) : TS := fun D σ H => tb (wKeep K c i j Wout D) D σ H
section
variable {X : Cx} {x n y : Str} {c : Value} {i j : Nat} {body : List Stmt} {np pos pos' p1 p2 p3 : Pos} {tb : WX → TS} {Wout : WX}
theorem ps_try_keep (hs : X.stack = X.env :: X.outer) (hf : X.env.frame = some X.env.locals) (hex : X.ex = []) (hN : X.N.Nodup) (hi : X.N[i]? = some n) (hj : X.N[j]? = some y) (hln : X.env.scope.names.lookup n = some .local) (hly : X.env.scope.names.lookup y = some .local)
    (hsw : swapsWith (.Name n p2) (some (.Name y p1)) p3.line X.env = pure false) (hdbg : (n == ("__debug__" : Str)) = false)
    (hc : Names X x c) (tk : Takes X Wout)
    (hb : ∀ (W : WX) (pn : List (Addr × Obj)) (xe : Value → Shared → Prop), Takes (X.tr pn xe) W → PassesOwn (model X.prog X.w) X.A X.env xe → PSs (X.tr pn xe) body (tb W)) (hcd : (n == ("__classdict__" : Str)) = false := by decide) :
    PS X (.Try body [.ExceptHandler (some (.Name x np)) (some n) [.Assign [.Name y p1] (.Name n p2) p3] pos'] [] [] pos) (tKeep X.K c i j Wout tb) := by
  refine ⟨fun pins s σ H D I h => ?_⟩
  have ok := I.ok
  have frames : X.A.frames = some (X.env :: X.outer) := by
    rw [ok.frames, hs]
  have localN : Loc X.env.scope n := .inl hln
  refine wpAny_Try_except ?_
  have run := (hb (wKeep X.K c i j Wout D) (X.pn ++ pins) (fun e s₁ => wpAny (model X.prog X.w) X.A (noteFrame e X.env) (fun _ s₂ => wpAny (model X.prog X.w) X.A (setFlight e none) (fun _ s₃ =>
    wpAny (model X.prog X.w) X.A (handleBy e X.env [.ExceptHandler (some (.Name x np)) (some n) [.Assign [.Name y p1] (.Name n p2) p3] pos']) (SP X pins D) X.xe s₃) X.xe s₂) X.xe s₁) ?_ PassesOwn.looking).run [] s σ H D (I.toTry _) h
  · refine wpAny_mono run (fun f s1 got => ?_) fun _ _ he => he
    match f, got with
    | .next, ⟨σ', H', J', q⟩ => exact wpAny_execs_nil ⟨σ', H', J'.ofTry ok, q⟩
    | .brk, ⟨σ', H', J', q⟩ => exact ⟨σ', H', J'.ofTry ok, q⟩
    | .cont, ⟨σ', H', J', q⟩ => exact ⟨σ', H', J'.ofTry ok, q⟩
    | .ret u, ⟨v, σ', H', J', r, q⟩ => exact ⟨v, σ', H', J'.ofTry ok, r, q⟩
  · intro u s' air
    obtain ⟨a, B, sI, pins', σ', H', cls, d, rfl, J', nb, up, sky, na, os, ag, b, hb1, hyes, hno⟩ := air
    have J : Inv X pins σ' H' sI := J'.ofTry ok
    have skyX : Sky B (X.env :: X.outer) a (Zc cls d) X.env.locals s'.heap := by
      rw [← hs]
      exact sky
    show wpAny (model X.prog X.w) X.A (noteFrame (.ref a) X.env) _ _ _
    refine Sky.land Zc.steady frames hf skyX fun g3 fly3 up3 => ?_
    have J3 : Inv X pins σ' H' { s' with heap := g3 } := J.landed nb fly3.1 (up.trans up3) os ag
    obtain ⟨o3, f3, at3, z3, d3⟩ := fly3.there
    have offFrames : a ∉ frs (X.env :: X.outer) := fun hm => by
      obtain ⟨_, ob, e', nf⟩ := fly3.2.2.1.mem hm
      rw [at3] at e'
      cases e'
      exact nf _ d3
    have nL : a ≠ X.env.locals := fun q => offFrames (List.mem_filterMap.mpr ⟨X.env, List.mem_cons_self, by rw [hf, q]⟩)
    have nF : a ∉ X.fs := fun hm => by
      obtain ⟨e, he, q⟩ := List.mem_filterMap.mp hm
      exact offFrames (List.mem_filterMap.mpr ⟨e, List.mem_cons_of_mem _ he, q⟩)
    have noB : B.get? a = none := fly3.2.1
    have notThere : ∀ ob, sI.heap.get? a ≠ some ob := fun ob e => by
      have q := nb a ob e (by rw [hs]; exact offFrames)
      rw [noB] at q
      cases q
    have freshA : X.s_0.heap.get? a = none := by
      cases q : X.s_0.heap.get? a with
      | none => rfl
      | some ob =>
        exfalso
        obtain ⟨ob', e'⟩ := J.base.there a ob q (by rw [hex]; exact fun m => nomatch m)
        exact notThere ob' e'
    have offPins : ∀ p ∈ X.pn ++ pins, p.1 ≠ a := fun p hp q => by
      have e := (J.pin p hp).1
      rw [q] at e
      exact notThere _ e
    have S3 := J3.suite at3 d3 na nL nF
    refine wpAny_handleBy_cons (codeAny_handlers_test ?_) (by intro q; cases q)
    have clsOf3 : PySem.W.Looks (model X.prog X.w) g3 (typeOf (.ref a)) cls := fun A Q E s k q => wpAny_typeOf_ref (k _ _ at3) (by rw [z3.1]; exact q)
    have takes3 := PySem.W.exm_one (M := model X.prog X.w) (J3.kIn) clsOf3 hb1
    have named : ∀ {Q : Value → Shared → Prop} {E : Value → Shared → Prop}, Q c { s' with heap := g3 } → wpAny (model X.prog X.w) (X.A.mark (some (.ref a))) (eval (.Name x np) X.env) Q E { s' with heap := g3 } := fun {Q E} q => by
      obtain ⟨hg, hd1, hm | ⟨hm, hv, hnn⟩⟩ := hc
      · exact ld_glob (X := X.suite a ((a, o3) :: (X.pn ++ pins))) S3 hg hm q hd1
      · exact ld_blt (X := X.suite a ((a, o3) :: (X.pn ++ pins))) S3 hg hm hv q hnn hd1
    refine named (takes3.here ?_)
    cases b with
    | false =>
      show wpAny _ X.A (handleBy (.ref a) X.env []) _ _ _
      refine wpAny_handleBy_nil ?_
      obtain ⟨k1, k2, k3, oe, fs, T, oT, ts', he, hz, hd2, h1, hr⟩ := id fly3
      unfold PySem.passOn
      refine wpAny_bind (wpAny_field he hd2 h1 ?_)
      rw [if_neg (show ¬ ((Value.ref T == Value.none) = true) from by simp)]
      have fin : wpAny (model X.prog X.w) X.A (setFlight (.ref a) X.env.frame) (fun _ s4 => wpAny (model X.prog X.w) X.A (throw (.ref a) : Sem Flow) (SP X pins D) X.xe s4) X.xe { s' with heap := g3 } := by
        rw [hf]
        refine HandSPX.setFlight_upZ fly3 fun g4 held4 up4 => wpAny_throw (tk _ _ ?_)
        exact ⟨a, B, sI, pins, σ', H', cls, d, rfl, J, nb, (up.trans up3).trans up4, .inr (.inr (by rw [hs]; exact held4)), na, os, ag, hno rfl⟩
      first
        | exact wpAny_bind (wpAny_pure (wpAny_bind fin))
        | exact wpAny_bind fin
    | true =>
      refine codeAny_handlers_suite_as ?_
      refine HandSPX.lands_againZ fly3 fun g4 fly4 up4 => ?_
      have J4 : Inv X pins σ' H' { s' with heap := g4 } := J.landed nb fly4.1 ((up.trans up3).trans up4) os ag
      obtain ⟨o4, f4, at4, z4, d4⟩ := fly4.there
      have S4 := J4.suite at4 d4 na nL nF
      refine store_ok (X := X.suite a ((a, o4) :: (X.pn ++ pins))) (v := .ref a) S4 hN hi localN rfl (fun s5 S5 => ?_) (.inr hln)
      have st : PSs (X.suite a ((a, o4) :: (X.pn ++ pins))) [.Assign [.Name y p1] (.Name n p2) p3] (tAsg (tVar i) (gName j)) := pss_one (ps_set hN hj (.inl hly) (pe_var hi (.inl hln) hdbg hcd) hsw (.inr hly))
      have li : i < σ'.length := by
        rw [J.len]
        exact (List.getElem?_eq_some_iff.mp hi).1
      refine wpAny_mono (st.run [] s5 _ H' { nx := fun σ6 H6 => σ6 = (σ'.set i (some (.ref a))).set j (some (.ref a)) ∧ H6 = H', rt := fun _ _ => False } S5 ⟨.ref a, by rw [List.getElem?_set_self li], rfl, rfl⟩) (fun f s6 got => ?_) (fun _ _ q => q.elim)
      match f, got with
      | .next, ⟨σ6, H6, S6, e1, e2⟩ =>
        subst e1 e2
        have at6 : s6.heap.get? a = some o4 := (S6.pin (a, o4) (List.mem_append_left _ List.mem_cons_self)).1
        have J6 : Inv X pins _ H6 s6 := S6.unsuite ok
        have T6 : Inv X pins _ (upd H6 a (ExH cls d a)) s6 := Inv.track J6 at6 d4 na freshA nL offPins ⟨⟨o4, f4, at6, z4, d4⟩, ⟨o4, at6⟩, fun h1 h2 ⟨oe, vs, q1, q2⟩ k => ⟨oe, vs, k oe q1, q2⟩⟩
        refine gone_ok T6 hN hi hln fun s7 J7 => ⟨_, _, J7, ?_⟩
        have es : ((σ'.set i (some (V.ref a))).set j (some (V.ref a))).set i none = (σ'.set j (some (V.ref a))).set i none := by
          by_cases hij : i = j
          · subst hij
            rw [List.set_set]
          · rw [List.set_comm _ _ hij, List.set_set]
        rw [es]
        exact hyes rfl a na
      | .brk, ⟨_, _, _, q⟩ => exact q.elim
      | .cont, ⟨_, _, _, q⟩ => exact q.elim
      | .ret u, ⟨_, _, _, _, _, q⟩ => exact q.elim
end
end Z
/-! Layer Z, part H: data as the library's own data: repr, ==, isinstance; in-place operators. -/
namespace Z
open PySem L2
def pyKey : Key → PyData
  | .inl i => .int i
  | .inr x => .str x
mutual
def D.py : D → Option PyData
  | .non => some .none
  | .bl b => some (.bool b)
  | .int i => some (.int i)
  | .str x => some (.str x)
  | .lst ds => (pyL ds).map .list
  | .tup ds => (pyL ds).map .tuple
  | .dct ks ds => (pyL ds).map fun ps => .dict ((ks.map pyKey).zip ps)
  | _ => none
def pyL : List D → Option (List PyData)
  | [] => some []
  | d :: ds => match d.py, pyL ds with
    | some p, some ps => some (p :: ps)
    | _, _ => none
end
theorem pyL_cons {d : D} {ds : List D} {ps : List PyData} (h : pyL (d :: ds) = some ps) : ∃ p qs, d.py = some p ∧ pyL ds = some qs ∧ ps = p :: qs := by
  unfold pyL at h
  cases e1 : d.py with
  | none =>
    rw [e1] at h
    cases h
  | some p =>
    cases e2 : pyL ds with
    | none =>
      rw [e1, e2] at h
      cases h
    | some qs =>
      rw [e1, e2] at h
      cases h
      exact ⟨p, qs, rfl, rfl, rfl⟩
theorem pyL_length : ∀ {ds : List D} {ps : List PyData}, pyL ds = some ps → ps.length = ds.length
  | [], ps, h => by
    unfold pyL at h
    cases h
    rfl
  | d :: ds, ps, h => by
    obtain ⟨p, qs, _, h2, rfl⟩ := pyL_cons h
    exact congrArg Nat.succ (pyL_length h2)
theorem pairs_keys {prog : Program} {w : World} {h : Heap} : ∀ {es : List DictEntry} {kvs : List (Key × Value)}, Pairs (mixKind prog w) es kvs → ReadsAll h (es.map (·.key)) (kvs.map fun kv => pyKey kv.1) [] ∧ es.map (·.val) = kvs.map (·.2)
  | _, _, .nil => ⟨.nil, rfl⟩
  | _, _, .cons (e := e) (kv := kv) (es := es) (kvs := kvs) h1 h2 h3 => by
    obtain ⟨q1, q2⟩ := pairs_keys (h := h) h3
    have r : Reads h e.key (pyKey kv.1) [] := by
      rcases keyIs_shape (k := kv.1) (v := e.key) h1 with ⟨i, t, e1, e2⟩ | ⟨x, t, e1, e2⟩
      · rw [e1, e2]
        exact .int i t
      · rw [e1, e2]
        exact .str x t
    exact ⟨.cons (as := []) (bs := []) r q1, by rw [List.map_cons, List.map_cons, h2, q2]⟩
theorem py_non : D.py .non = some .none := by simp only [D.py]
theorem py_bl (b : Bool) : D.py (.bl b) = some (.bool b) := by simp only [D.py]
theorem py_int (b : Int) : D.py (.int b) = some (.int b) := by simp only [D.py]
theorem py_str (b : Str) : D.py (.str b) = some (.str b) := by simp only [D.py]
theorem py_lst (ds : List D) : D.py (.lst ds) = (pyL ds).map .list := by simp only [D.py]
theorem py_tup (ds : List D) : D.py (.tup ds) = (pyL ds).map .tuple := by simp only [D.py]
theorem py_dct (ks : List Key) (ds : List D) : D.py (.dct ks ds) = (pyL ds).map fun ps => .dict ((ks.map pyKey).zip ps) := by simp only [D.py]
theorem py_ins (c ns ds) : D.py (.ins c ns ds) = none := by simp only [D.py]
theorem py_raw (v) : D.py (.raw v) = none := by simp only [D.py]
theorem py_fro (v) : D.py (.fro v) = none := by simp only [D.py]
theorem py_exc (v) : D.py (.exc v) = none := by simp only [D.py]
theorem py_exf (c ns ds) : D.py (.exf c ns ds) = none := by simp only [D.py]
section
variable {X : Cx} {pins : List (Addr × Obj)} {σ : St} {H S : Hp} {s : Shared}
abbrev ReadsOk (s : Shared) (u : Value) (pd : PyData) : Prop := ∃ as, Reads s.heap u pd as ∧ sysModules ∉ as
abbrev ReadsOkL (s : Shared) (us : List Value) (ps : List PyData) : Prop := ∃ as, ReadsAll s.heap us ps as ∧ sysModules ∉ as
theorem reads_lst {ds : List D} {v : V} {u : Value} {pd : PyData} (I : Inv X pins σ H s) (sy : ∃ o φ, H 1 = some (.frz o (.ext φ))) (ex : Ex S H) (ih : ∀ {vs : List V} {us : List Value} {ps : List PyData}, RepL X.K S ds vs → Vals vs us → pyL ds = some ps → ReadsOkL s us ps)
    (r : Rep X.K S (.lst ds) v) (q : RelV v u) (e : D.py (.lst ds) = some pd) : ReadsOk s u pd := by
  obtain ⟨a, vs, rfl, g1, g2⟩ := r
  cases (show u = Value.ref a from q)
  rw [py_lst] at e
  obtain ⟨ps, e1, e2⟩ := Option.map_eq_some_iff.mp e
  subst e2
  have hH := ex _ _ g1
  obtain ⟨_, its, n, rel, hh⟩ := (show ObjOk X.prog X.w H s.heap a (.lst vs) from I.hok a _ hH)
  obtain ⟨as, rd, no⟩ := ih g2 rel e1
  refine ⟨_, .list hh rfl rfl rd, fun m => ?_⟩
  rcases List.mem_cons.mp m with y | y
  · obtain ⟨o, φ, e1⟩ := sy
    rw [← y] at hH
    rw [show H sysModules = H 1 from rfl, e1] at hH
    cases hH
  · exact no y
theorem reads_tup {ds : List D} {v : V} {u : Value} {pd : PyData} (I : Inv X pins σ H s) (ex : Ex S H) (ih : ∀ {vs : List V} {us : List Value} {ps : List PyData}, RepL X.K S ds vs → Vals vs us → pyL ds = some ps → ReadsOkL s us ps)
    (r : Rep X.K S (.tup ds) v) (q : RelV v u) (e : D.py (.tup ds) = some pd) : ReadsOk s u pd := by
  obtain ⟨a, vs, rfl, g1, g2⟩ := r
  cases (show u = Value.ref a from q)
  rw [py_tup] at e
  obtain ⟨ps, e1, e2⟩ := Option.map_eq_some_iff.mp e
  subst e2
  obtain ⟨_, its, rel, o, h1, h2, n, h3⟩ := (show ObjOk X.prog X.w H s.heap a (.tup vs) from I.hok a _ (ex _ _ g1))
  obtain ⟨as, rd, no⟩ := ih g2 rel e1
  exact ⟨_, .tuple h1 h2 h3 (by simpa using rd), no⟩
theorem kv_both : ∀ {kvs : List (Key × V)} {vs : List (Key × Value)}, KV kvs vs → kvs.map (·.1) = vs.map (·.1) ∧ Vals (kvs.map (·.2)) (vs.map (·.2))
  | _, _, .nil => ⟨rfl, .nil⟩
  | _, _, .cons r t => by
    obtain ⟨q1, q2⟩ := kv_both t
    exact ⟨by rw [List.map_cons, List.map_cons, r.1, q1], .cons r.2 q2⟩
theorem reads_dct {ks : List Key} {ds : List D} {v : V} {u : Value} {pd : PyData} (I : Inv X pins σ H s) (ex : Ex S H) (ih : ∀ {vs : List V} {us : List Value} {ps : List PyData}, RepL X.K S ds vs → Vals vs us → pyL ds = some ps → ReadsOkL s us ps)
    (r : Rep X.K S (.dct ks ds) v) (q : RelV v u) (e : D.py (.dct ks ds) = some pd) : ReadsOk s u pd := by
  obtain ⟨a, kvs, rfl, g1, g3, g2⟩ := r
  cases (show u = Value.ref a from q)
  rw [py_dct] at e
  obtain ⟨ps, e1, e2⟩ := Option.map_eq_some_iff.mp e
  subst e2
  obtain ⟨_, ns, vs, kv, o, es, ep, h1, h2, h3, h4, h5, h6⟩ := (show ObjOk X.prog X.w H s.heap a (.dK kvs) from I.hok a _ (ex _ _ g1))
  obtain ⟨k1, k2⟩ := kv_both kv
  obtain ⟨as, rd, no⟩ := ih g2 k2 e1
  obtain ⟨p1, p2⟩ := pairs_keys (h := s.heap) h5
  have hk : (vs.map fun kv => pyKey kv.1) = ks.map pyKey := by
    rw [← g3, k1, List.map_map]
    rfl
  have l1 := pyL_length e1
  have l2 := g2.length
  have hlen : ps.length = (ks.map pyKey).length := by
    rw [l1, List.length_map, ← g3, ← l2, List.length_map, List.length_map]
  refine ⟨[a] ++ [] ++ as, .dict h1 h2.1 h3 ?_ ?_, fun m => ?_⟩
  · have y : ((ks.map pyKey).zip ps).map (·.1) = ks.map pyKey := by
      rw [List.map_fst_zip (by omega)]
    rw [y, ← hk]
    exact p1
  · have y : ((ks.map pyKey).zip ps).map (·.2) = ps := by
      rw [List.map_snd_zip (by omega)]
    rw [y, p2]
    exact rd
  · have m' : sysModules ∈ a :: as := by simpa using m
    rcases List.mem_cons.mp m' with y | y
    · rw [← y] at ns
      simp at ns
    · exact no y
mutual
theorem Rep.reads (I : Inv X pins σ H s) (sy : ∃ o φ, H 1 = some (.frz o (.ext φ))) (ex : Ex S H) : ∀ (d : D) {v : V} {u : Value} {pd : PyData}, Rep X.K S d v → RelV v u → d.py = some pd → ReadsOk s u pd
  | .non, v, u, pd, r, q, e => by
    rw [py_non] at e
    cases e
    cases (show v = .non from r)
    cases (show u = Value.none from q)
    exact ⟨_, .none, by simp⟩
  | .bl b, v, u, pd, r, q, e => by
    rw [py_bl] at e
    cases e
    cases (show v = .bl b from r)
    cases (show u = Value.bool b from q)
    exact ⟨_, .bool b, by simp⟩
  | .int i, v, u, pd, r, q, e => by
    rw [py_int] at e
    cases e
    cases (show v = .int i from r)
    obtain ⟨t, q⟩ := q
    cases q
    exact ⟨_, .int i t, by simp⟩
  | .str x, v, u, pd, r, q, e => by
    rw [py_str] at e
    cases e
    cases (show v = .str x from r)
    obtain ⟨t, q⟩ := q
    cases q
    exact ⟨_, .str x t, by simp⟩
  | .lst ds, v, u, pd, r, q, e => reads_lst I sy ex (RepL.reads I sy ex ds) r q e
  | .tup ds, v, u, pd, r, q, e => reads_tup I ex (RepL.reads I sy ex ds) r q e
  | .dct ks ds, v, u, pd, r, q, e => reads_dct I ex (RepL.reads I sy ex ds) r q e
  | .raw _, v, u, pd, r, q, e => by rw [py_raw] at e; cases e
  | .fro _, v, u, pd, r, q, e => by rw [py_fro] at e; cases e
  | .exc _, v, u, pd, r, q, e => by rw [py_exc] at e; cases e
  | .ins _ _ _, v, u, pd, r, q, e => by rw [py_ins] at e; cases e
  | .exf _ _ _, v, u, pd, r, q, e => by rw [py_exf] at e; cases e
theorem RepL.reads (I : Inv X pins σ H s) (sy : ∃ o φ, H 1 = some (.frz o (.ext φ))) (ex : Ex S H) : ∀ (ds : List D) {vs : List V} {us : List Value} {ps : List PyData}, RepL X.K S ds vs → Vals vs us → pyL ds = some ps → ReadsOkL s us ps
  | [], vs, us, ps, r, q, e => by
    cases (show vs = [] from r)
    cases q
    simp only [pyL] at e
    cases e
    exact ⟨_, .nil, by simp⟩
  | d :: ds, vs, us, ps, r, q, e => by
    obtain ⟨v, rest, rfl, r1, r2⟩ := r
    obtain ⟨p, qs, e1, e2, rfl⟩ := pyL_cons e
    cases q with
    | cons q1 q2 =>
      obtain ⟨as, h1, n1⟩ := Rep.reads I sy ex d r1 q1 e1
      obtain ⟨bs, h2, n2⟩ := RepL.reads I sy ex ds r2 q2 e2
      exact ⟨_, .cons h1 h2, fun m => (List.mem_append.mp m).elim n1 n2⟩
end
end
end Z
namespace Z
open PySem L2
/-! ### repr -/
def rRepr (K : PySem.W.Frag) : List V → Hp → VK → Prop := fun xs H Q => ∃ (v : V) (d : D) (pd : PyData) (S : Hp), xs = [v] ∧ Ex S H ∧ Rep K S d v ∧ d.py = some pd ∧ (∃ o φ, H 1 = some (.frz o (.ext φ))) ∧
  pd.showable = true ∧ pd.depth ≤ 50 ∧ pd.shown.length ≤ sizeLine ∧ Q (.str pd.shown) H
theorem call_repr {X : Cx} {k : Nat} (hr : RoomG k X.A) : CallR X (.builtin "repr") (rRepr X.K) := by
  intro pins s σ H xs us Q I r h
  obtain ⟨v, d, pd, S, rfl, ex, rp, e, sy, h1, h2, h3, q⟩ := h
  obtain ⟨u, rfl, ru⟩ := vals1 r
  have hu := hr.r.units
  obtain ⟨as, rd, no⟩ := Rep.reads I sy ex d rp ru e
  clear rp ru e
  cases rd with
  | none => exact PySem.P.repr_of_none ⟨.str _, H, I.tok _, ⟨_, rfl⟩, q⟩
  | bool b => exact PySem.P.repr_of_bool ⟨.str _, H, I.tok _, ⟨_, rfl⟩, q⟩
  | int i t => exact PySem.P.repr_of_int (by simpa [PyData.showable] using h1) ⟨.str _, H, I.tok _, ⟨_, rfl⟩, q⟩
  | str x t => exact PySem.P.repr_of_str (hsz := by simpa only [PyData.shown] using h3) ⟨.str _, H, I.tok _, ⟨_, rfl⟩, q⟩
  | list a1 a2 a3 a4 => exact repr_of_reads' (.list a1 a2 a3 a4) h1 (fun _ => no) hr.g (by omega) (fun _ _ z => z) (fun h' u tk k => ⟨.str _, H, I.kept k, ⟨_, rfl⟩, q⟩) h3
  | tuple a1 a2 a3 a4 => exact repr_of_reads' (.tuple a1 a2 a3 a4) h1 (fun _ => no) hr.g (by omega) (fun _ _ z => z) (fun h' u tk k => ⟨.str _, H, I.kept k, ⟨_, rfl⟩, q⟩) h3
  | dict a1 a2 a3 a4 a5 => exact repr_of_reads' (.dict a1 a2 a3 a4 a5) h1 (fun _ => no) hr.g (by omega) (fun _ _ z => z) (fun h' u tk k => ⟨.str _, H, I.kept k, ⟨_, rfl⟩, q⟩) h3
/-- data that may be shown; its text -/
def D.shows (d : D) (pd : PyData) : Prop := d.py = some pd ∧ pd.showable = true ∧ pd.depth ≤ 50 ∧ pd.shown.length ≤ sizeLine
section
variable {z : Zx} {f : Fm} {S S2 H H2 : Hp} {σ : St} {Γ : List Sl} {Φ : D → List Sl → Prop} {Φo : Ob → List Sl → Prop} {G : GE}
theorem cg_repr {d : D} {pd : PyData} (hd : d.shows pd) (h : Φ (.str pd.shown) Γ) : CG z (rRepr z.K) [.dat d] Γ Φ := fun f _ S H σ vs Q A r k => by
  obtain ⟨v, _, rfl, r, rfl⟩ := r
  obtain ⟨h1, h2, h3, h4⟩ := hd
  exact ⟨v, d, pd, S, rfl, A.ex, r, h1, A.sysH, h2, h3, h4, k.refl h A rfl⟩

/-! ### == -/
mutual
theorem Rep.dp {K : PySem.W.Frag} (ex : Ex S H) : ∀ (d : D) {v : V} {pd : PyData}, Rep K S d v → d.py = some pd → pd.canLay0 = true → Dp K H v pd
  | .non, v, pd, r, e, _ => by
    rw [py_non] at e
    cases e
    cases (show v = .non from r)
    exact .non
  | .bl b, v, pd, r, e, _ => by
    rw [py_bl] at e
    cases e
    cases (show v = .bl b from r)
    exact .bl b
  | .int i, v, pd, r, e, _ => by
    rw [py_int] at e
    cases e
    cases (show v = .int i from r)
    exact .int i
  | .str x, v, pd, r, e, _ => by
    rw [py_str] at e
    cases e
    cases (show v = .str x from r)
    exact .str x
  | .lst ds, v, pd, r, e, c => by
    obtain ⟨a, vs, rfl, g1, g2⟩ := r
    rw [py_lst] at e
    obtain ⟨ps, e1, e2⟩ := Option.map_eq_some_iff.mp e
    subst e2
    exact .lst (SqL.of (ex _ _ g1)) (RepL.dp ex ds g2 e1 (by simpa [PyData.canLay0] using c))
  | .tup ds, v, pd, r, e, c => by
    obtain ⟨a, vs, rfl, g1, g2⟩ := r
    rw [py_tup] at e
    obtain ⟨ps, e1, e2⟩ := Option.map_eq_some_iff.mp e
    subst e2
    exact .tup (SqT.of (ex _ _ g1)) (RepL.dp ex ds g2 e1 (by simpa [PyData.canLay0] using c))
  | .dct ks ds, v, pd, r, e, c => by
    rw [py_dct] at e
    obtain ⟨ps, e1, e2⟩ := Option.map_eq_some_iff.mp e
    subst e2
    simp [PyData.canLay0] at c
  | .raw _, v, pd, r, e, _ => by rw [py_raw] at e; cases e
  | .fro _, v, pd, r, e, _ => by rw [py_fro] at e; cases e
  | .exc _, v, pd, r, e, _ => by rw [py_exc] at e; cases e
  | .ins _ _ _, v, pd, r, e, _ => by rw [py_ins] at e; cases e
  | .exf _ _ _, v, pd, r, e, _ => by rw [py_exf] at e; cases e
theorem RepL.dp {K : PySem.W.Frag} (ex : Ex S H) : ∀ (ds : List D) {vs : List V} {ps : List PyData}, RepL K S ds vs → pyL ds = some ps → PyData.canLayAll0 ps = true → DpAll K H vs ps
  | [], vs, ps, r, e, _ => by
    cases (show vs = [] from r)
    simp only [pyL] at e
    cases e
    exact .nil
  | d :: ds, vs, ps, r, e, c => by
    obtain ⟨v, rest, rfl, r1, r2⟩ := r
    obtain ⟨p, qs, e1, e2, rfl⟩ := pyL_cons e
    have c' : p.canLay0 = true ∧ PyData.canLayAll0 qs = true := by simpa [PyData.canLayAll0] using c
    exact .cons (Rep.dp ex d r1 e1 c'.1) (RepL.dp ex ds r2 e2 c'.2)
end
theorem og_eqD {a b : D} {pa pb : PyData} (ha : a.py = some pa) (hb : b.py = some pb) (sa : SeqAt.shaped pa = true) (sb : SeqAt.shaped pb = true) (h : Φ (.bl (PyData.eqv pa pb)) Γ) : OG z (rEqD z.K) a b Γ Φ := fun f _ S H σ v u Q A p q k =>
  ⟨pa, pb, p.dp A.ex a ha (SeqAt.canLay_of_shaped sa), q.dp A.ex b hb (SeqAt.canLay_of_shaped sb), sa, sb, k.refl h A rfl⟩
theorem og_neD {a b : D} {pa pb : PyData} (ha : a.py = some pa) (hb : b.py = some pb) (sa : SeqAt.shaped pa = true) (sb : SeqAt.shaped pb = true) (h : Φ (.bl (!PyData.eqv pa pb)) Γ) : OG z (rNeD z.K) a b Γ Φ := fun f _ S H σ v u Q A p q k =>
  ⟨pa, pb, p.dp A.ex a ha (SeqAt.canLay_of_shaped sa), q.dp A.ex b hb (SeqAt.canLay_of_shaped sb), sa, sb, k.refl h A rfl⟩

end
end Z
namespace Z
open PySem L2
section
variable {z : Zx} {f : Fm} {S S2 H H2 : Hp} {σ : St} {Γ : List Sl} {Φ : D → List Sl → Prop} {Φo : Ob → List Sl → Prop} {G : GE}
/-! ### isinstance -/
/-- a value's class -/
inductive TyZ (K : PySem.W.Frag) (H : Hp) : V → Value → Prop where
  | x {v : V} {t : Value} (h : TyX K H v t) : TyZ K H v t
  | exc {a D : Addr} {d : Option Addr} (e : H a = some (ExH (.ref D) d a)) (c : ExcC K D) (hd : d = none ∨ ∃ b fs, d = some b ∧ H b = some (.xd fs)) : TyZ K H (.ref a) (.ref D)
def rIsA (K : PySem.W.Frag) : List V → Hp → VK → Prop := fun xs H Q => ∃ (x c : V) (t u : Value) (b : Bool), xs = [x, c] ∧ ClsV c u ∧ TyZ K H x t ∧ PySem.W.kitOne K t u = some b ∧ Q (.bl b) H
def rIsAT (K : PySem.W.Frag) : List V → Hp → VK → Prop := fun xs H Q => ∃ (x : V) (tp : Addr) (cs : List V) (t : Value) (us : List Value) (b : Bool), xs = [x, .ref tp] ∧ H tp = some (.tup cs) ∧ Paired ClsV cs us ∧ TyZ K H x t ∧ PySem.W.kitAny K t us = some b ∧ Q (.bl b) H
theorem kit_ofZ {X : Cx} {pins : List (Addr × Obj)} {σ : St} {H : Hp} {s : Shared} {x : V} {u t : Value} (I : Inv X pins σ H s) (rx : RelV x u) (ty : TyZ X.K H x t) : ∃ P : Heap → Prop, PySem.W.KitX X.K u t P ∧ P s.heap ∧ u ≠ .builtin "__main__.__loader__#opaque" := by
  cases ty with
  | x h => exact kit_of I rx h
  | @exc a D d e c hd =>
    cases (show u = Value.ref a from rx)
    obtain ⟨⟨oe, vs, h1, ⟨hz1, hz2⟩, h2⟩, _⟩ := I.hok a _ e
    have hcl : (PySem.W.clsIn X.K D).isSome = true := by
      obtain ⟨cd, hc, _⟩ := PySem.W.any_some c.hd
      rw [hc]
      rfl
    have nc : PySem.W.notCls oe = true := by
      obtain ⟨oc, od, dt, sl⟩ := oe
      cases (show dt = .fields vs from h2)
      rfl
    rcases hd with rfl | ⟨b, fs, rfl, hb⟩
    · refine ⟨fun h => PySem.W.InstAt h a oe D none, PySem.W.kitx_exc hcl c.hg c.hk c.hs c.ha c.hn c.ht c.hm, ⟨h1, hz1, nc, ?_⟩, fun z => nomatch z⟩
      rw [hz2]
      trivial
    · obtain ⟨mA, ⟨od, es, ep, q1, q2⟩, _⟩ := (show ObjOk X.prog X.w H s.heap b (.xd fs) from I.hok b _ hb)
      refine ⟨fun h => PySem.W.InstAt h a oe D (some od), PySem.W.kitx_exc hcl c.hg c.hk c.hs c.ha c.hn c.ht c.hm, ⟨h1, hz1, nc, ?_⟩, fun z => nomatch z⟩
      rw [hz2]
      exact q1
theorem call_isZ {X : Cx} : CallR X (.builtin "isinstance") (rIsA X.K) := by
  intro pins s σ H xs us Q I r h
  obtain ⟨x, c, t, u, b, rfl, k, ty, e, q⟩ := h
  obtain ⟨u1, u2, rfl, r1, r2⟩ := vals2 r
  cases k.eq r2
  obtain ⟨P, kit, p, hx⟩ := kit_ofZ I r1 ty
  exact PySem.W.kia_one kit I.kIn p e hx fun tk => ⟨.bl b, H, I.tok tk, rfl, q⟩
theorem call_isZT {X : Cx} : CallR X (.builtin "isinstance") (rIsAT X.K) := by
  intro pins s σ H xs us Q I r h
  obtain ⟨x, tp, cs, t, ws, b, rfl, hT, k, ty, e, q⟩ := h
  obtain ⟨u1, u2, rfl, r1, r2⟩ := vals2 r
  cases (show u2 = Value.ref tp from r2)
  obtain ⟨P, kit, p, hx⟩ := kit_ofZ I r1 ty
  obtain ⟨_, its, rv, o, h1, h2, n, h3⟩ := (show ObjOk X.prog X.w H s.heap tp (.tup cs) from I.hok tp _ hT)
  cases ClsV.all k rv
  obtain ⟨oc, od, dt, sl⟩ := o
  simp only at h2 h3
  subst h2 h3
  exact PySem.W.kia_tup kit I.kIn p h1 e hx fun tk => ⟨.bl b, H, I.tok tk, rfl, q⟩
/-- the class of data -/
inductive TyD (K : PySem.W.Frag) : D → Value → Prop where
  | non : TyD K .non (.type "NoneType")
  | bl (b : Bool) : TyD K (.bl b) (.type "bool")
  | int (i : Int) : TyD K (.int i) (.type "int")
  | str (x : Str) : TyD K (.str x) (.type "str")
  | lst (ds : List D) : TyD K (.lst ds) (.type "list")
  | tup (ds : List D) : TyD K (.tup ds) (.type "tuple")
  | dct (ks : List Key) (ds : List D) : TyD K (.dct ks ds) (.type "dict")
  | ins {c : Str} (ns : List Str) (ds : List D) (h : Ic K c) : TyD K (.ins c ns ds) (.ref (He.ga K c))
  | exc {c : Str} (h : ExcC K (He.ga K c)) : TyD K (.exc c) (.ref (He.ga K c))
  | exf {c : Str} (ns : List Str) (ds : List D) (h : ExcC K (He.ga K c)) : TyD K (.exf c ns ds) (.ref (He.ga K c))
theorem TyD.tz {K : PySem.W.Frag} {d : D} {v : V} {t : Value} (ex : Ex S H) (r : Rep K S d v) (h : TyD K d t) : TyZ K H v t := by
  cases h with
  | non => cases (show v = .non from r); exact .x (.base .non)
  | bl b => cases (show v = .bl b from r); exact .x (.base (.bl b))
  | int b => cases (show v = .int b from r); exact .x (.base (.int b))
  | str b => cases (show v = .str b from r); exact .x (.base (.str b))
  | lst ds =>
    obtain ⟨a, vs, rfl, g1, _⟩ := r
    exact .x (.base (.lst (ex _ _ g1)))
  | tup ds =>
    obtain ⟨a, vs, rfl, g1, _⟩ := r
    exact .x (.base (.tup (ex _ _ g1)))
  | dct ks ds =>
    obtain ⟨a, vs, rfl, g1, _⟩ := r
    exact .x (.base (.dK (ex _ _ g1)))
  | ins ns ds h =>
    obtain ⟨a, dx, vs, rfl, g1, _⟩ := r
    exact .x (.base (.ins (ex _ _ g1) h.cl h.ha h.hn h.ht h.hm))
  | exc h =>
    obtain ⟨a, rfl, g1⟩ := r
    exact .exc (ex _ _ g1) h (.inl rfl)
  | exf ns ds h =>
    obtain ⟨a, b, fs, rfl, g1, g2, _⟩ := r
    exact .exc (ex _ _ g1) h (.inr ⟨b, fs, rfl, ex _ _ g2⟩)
theorem cg_is {d : D} {c : V} {t u : Value} {b : Bool} (ht : TyD z.K d t) (hc : ClsV c u) (hk : PySem.W.kitOne z.K t u = some b) (h : Φ (.bl b) Γ) : CG z (rIsA z.K) [.dat d, .dat (.raw c)] Γ Φ := fun f _ S H σ vs Q A r k => by
  obtain ⟨v, _, rfl, r1, w, _, rfl, r2, rfl⟩ := r
  cases (show w = c from r2)
  exact ⟨v, c, t, u, b, rfl, hc, ht.tz A.ex r1, hk, k.refl h A rfl⟩
def D.rawV : D → Option V
  | .raw v => some v
  | _ => none
theorem rawV_eq : ∀ {d : D} {v : V}, d.rawV = some v → d = .raw v := by
  intro d v h
  cases d with
  | raw w => exact congrArg D.raw (Option.some.inj h)
  | _ => exact absurd h (by simp [D.rawV])
def raws : List D → Option (List V)
  | [] => some []
  | d :: ds => d.rawV.bind fun v => (raws ds).map (v :: ·)
theorem RepL.raws {K : PySem.W.Frag} {ds : List D} : ∀ {vs ws : List V}, RepL K S ds vs → Z.raws ds = some ws → vs = ws := by
  induction ds with
  | nil =>
    intro vs ws r e
    cases (show some ([] : List V) = some ws from e)
    exact r
  | cons d ds ih =>
    intro vs ws r e
    obtain ⟨u, rest, rfl, r1, r2⟩ := r
    have e' : (d.rawV.bind fun v => (Z.raws ds).map (v :: ·)) = some ws := e
    obtain ⟨v, e1, e2⟩ := Option.bind_eq_some_iff.mp e'
    obtain ⟨us, e3, e4⟩ := Option.map_eq_some_iff.mp e2
    have ed := rawV_eq e1
    subst ed
    rw [ih r2 e3, show u = v from r1, e4]
theorem cg_isT {d : D} {ds : List D} {cs : List V} {t : Value} {us : List Value} {b : Bool} (ht : TyD z.K d t) (hr : raws ds = some cs) (hc : Paired ClsV cs us) (hk : PySem.W.kitAny z.K t us = some b) (h : Φ (.bl b) Γ) : CG z (rIsAT z.K) [.dat d, .dat (.tup ds)] Γ Φ := fun f _ S H σ vs Q A r k => by
  obtain ⟨v, _, rfl, r1, w, _, rfl, ⟨a, ws, rfl, g1, g2⟩, rfl⟩ := r
  exact ⟨v, a, cs, t, us, b, rfl, by rw [← g2.raws hr]; exact A.ex _ _ g1, hc, ht.tz A.ex r1, hk, k.refl h A rfl⟩
/-- plain data against a built-in type -/
def D.isA : D → String → Bool
  | .bl _, T => T == "bool" || T == "int"
  | .int _, T => T == "int"
  | .str _, T => T == "str"
  | .lst _, T => T == "list"
  | .tup _, T => T == "tuple"
  | .dct _ _, T => T == "dict"
  | _, _ => false
def D.plain : D → Bool
  | .raw _ | .fro _ | .ins _ _ _ | .exc _ | .exf _ _ _ => false
  | _ => true
theorem isA_kit {K : PySem.W.Frag} {d : D} {T : String} (hp : d.plain = true) (hT : T ∈ ["int", "bool", "str", "list", "tuple", "dict"]) : ∃ t, TyD K d t ∧ PySem.W.kitOne K t (.type T) = some (d.isA T) := by
  have key : ∀ n, n ∈ ["NoneType", "bool", "int", "str", "list", "tuple", "dict"] → kitB n T = some (if n = "bool" then T == "bool" || T == "int" else if n = "NoneType" then false else T == n) := by
    intro n hn
    simp only [List.mem_cons, List.not_mem_nil, or_false] at hT hn
    rcases hT with rfl | rfl | rfl | rfl | rfl | rfl <;> rcases hn with rfl | rfl | rfl | rfl | rfl | rfl | rfl <;> decide +kernel
  cases d with
  | non => exact ⟨_, .non, kit_ty (key "NoneType" (by simp))⟩
  | bl b => exact ⟨_, .bl b, kit_ty (key "bool" (by simp))⟩
  | int b => exact ⟨_, .int b, kit_ty (key "int" (by simp))⟩
  | str b => exact ⟨_, .str b, kit_ty (key "str" (by simp))⟩
  | lst b => exact ⟨_, .lst b, kit_ty (key "list" (by simp))⟩
  | tup b => exact ⟨_, .tup b, kit_ty (key "tuple" (by simp))⟩
  | dct b c => exact ⟨_, .dct b c, kit_ty (key "dict" (by simp))⟩
  | _ => cases hp
theorem cg_isP {d : D} {T : String} (hp : d.plain = true) (hT : T ∈ ["int", "bool", "str", "list", "tuple", "dict"]) (h : Φ (.bl (d.isA T)) Γ) : CG z (rIsA z.K) [.dat d, .dat (.raw (.ty T))] Γ Φ := by
  obtain ⟨t, h1, h2⟩ := isA_kit (K := z.K) hp hT
  exact cg_is h1 (.ty T) h2 h

end
end Z
namespace Z
open PySem L2
section
variable {z : Zx} {f : Fm} {S S2 H H2 : Hp} {σ : St} {Γ : List Sl} {Φ : D → List Sl → Prop} {Φo : Ob → List Sl → Prop} {G : GE}
/-! ### an error kept -/
/-- try: body / except c as n: y = n -/
theorem sg_keep {tb : WX → TS} {C : Str} {i j : Nat} (hi : i < z.n) (hj : j < z.n) (hne : i ≠ j)
    (h : ∀ W, SG { z with W := W, Xe := fun x Γ1 => (∃ c, x = .bare c ∧ ((PySem.W.exmOne z.K (.ref (He.ga z.K c)) (.ref (He.ga z.K C)) = some true ∧ G.nx ((Γ1.set j (.dat (.exc c))).set i .no)) ∨ (PySem.W.exmOne z.K (.ref (He.ga z.K c)) (.ref (He.ga z.K C)) = some false ∧ z.Xe x Γ1))) ∨
      (∃ c ns ds, x = .fld c ns ds ∧ ((PySem.W.exmOne z.K (.ref (He.ga z.K c)) (.ref (He.ga z.K C)) = some true ∧ G.nx ((Γ1.set j (.dat (.exf c ns ds))).set i .no)) ∨ (PySem.W.exmOne z.K (.ref (He.ga z.K c)) (.ref (He.ga z.K C)) = some false ∧ z.Xe x Γ1))) } (tb W) Γ G) :
    SG z (tKeep z.K (.ref (He.ga z.K C)) i j z.W tb) Γ G := fun f X S H σ D A E => by
  refine h (wKeep z.K (.ref (He.ga z.K C)) i j z.W D) f ?_ S H σ D A ⟨E.nx, E.rt, E.rto, E.bk, E.ct⟩
  have kept : ∀ {S1 H1 σ1 Γ1 cv d dd}, AtZ z f S1 H1 σ1 Γ1 → (∀ a, Rep z.K (upd S1 a (ExH cv d a)) dd (.ref a) ∨ S1 a ≠ none) → G.nx ((Γ1.set j (.dat dd)).set i .no) → ∀ a, H1 a = none → D.nx ((σ1.set j (some (.ref a))).set i none) (upd H1 a (ExH cv d a)) := by
    intro S1 H1 σ1 Γ1 cv d dd A1 hr q a ha
    have B := A1.laid (u := ExH cv d a) ha
    have r : Rep z.K (upd S1 a (ExH cv d a)) dd (.ref a) := (hr a).resolve_right fun n => n (A1.ex.none ha)
    exact E.nx _ _ _ _ q ((B.set_dat hj r).set_no (i := i) (v := none))
  rintro x S1 H1 σ1 Γ1 c d (⟨cn, rfl, q⟩ | ⟨cn, ns, ds, rfl, q⟩) A1 ea
  · obtain ⟨rfl, rfl⟩ := ea
    rcases q with ⟨e1, q⟩ | ⟨e1, q⟩
    · exact ⟨true, e1, fun _ => kept (dd := Z.D.exc cn) A1 (fun a => .inl ⟨a, rfl, upd_same⟩) q, fun n => nomatch n⟩
    · exact ⟨false, e1, fun n => (nomatch n), fun _ => X _ S1 H1 σ1 Γ1 _ _ q A1 ⟨rfl, rfl⟩⟩
  · obtain ⟨rfl, b, fs, rfl, g1, g2, g3⟩ := id ea
    rcases q with ⟨e1, q⟩ | ⟨e1, q⟩
    · refine ⟨true, e1, fun _ => kept (dd := Z.D.exf cn ns ds) A1 (fun a => ?_) q, fun n => nomatch n⟩
      by_cases sa : S1 a = none
      · have x : Ex S1 (upd S1 a (ExH (.ref (He.ga z.K cn)) (some b) a)) := (Ex.refl S1).upd sa
        exact .inl ⟨a, b, fs, rfl, upd_same, x _ _ g1, g2, g3.mono x⟩
      · exact .inr sa
    · exact ⟨false, e1, fun n => (nomatch n), fun _ => X _ S1 H1 σ1 Γ1 _ _ q A1 ea⟩

/-! ### in place -/
open PyProof.Rows in
theorem ip_mulZ {X : Cx} : PIp X .Mult (fun x y H Q => ∃ i j, x = .int i ∧ y = .int j ∧ CMulW i j ∧ Q (.int (i * j)) H) := by
  intro pins s σ H x y v u Q I r1 r2 h
  obtain ⟨i, j, rfl, rfl, hc, q⟩ := h
  obtain ⟨t, rfl⟩ := r1
  obtain ⟨t', rfl⟩ := r2
  exact PyProof.Rows.imul_int ⟨.int _, H, I.tok _, ⟨_, rfl⟩, q⟩ hc.ok
open PyProof.Rows in
theorem ip_fdivZ {X : Cx} : PIp X .FloorDiv (fun x y H Q => ∃ i j, x = .int i ∧ y = .int j ∧ CDivW i j ∧ Q (.int (i / j)) H) := by
  intro pins s σ H x y v u Q I r1 r2 h
  obtain ⟨i, j, rfl, rfl, hc, q⟩ := h
  obtain ⟨t, rfl⟩ := r1
  obtain ⟨t', rfl⟩ := r2
  have pos : (0 : Int) < j := hc.1
  exact ifloordiv_int (by omega) (by rw [Int.fdiv_eq_ediv_of_nonneg i (by omega)]; exact ⟨.int _, H, I.tok _, ⟨_, rfl⟩, q⟩) (.inl (PyProof.noPylong_of_log2 hc.2))
theorem sg_augC {te : TE} {C : Int → Int → Prop} {g : Int → Int → Int} {i : Nat} {a : Int} (e : Γ[i]? = some (.dat (.int a))) (hi : i < z.n) (h : EG z te Γ fun d Γ1 => ∃ b, d = .int b ∧ C a b ∧ G.nx (Γ1.set i (.dat (.int (g a b))))) :
    SG z (tAug i te (fun x y H Q => ∃ i j, x = .int i ∧ y = .int j ∧ C i j ∧ Q (.int (g i j)) H)) Γ G := fun f X S H σ D A E => by
  obtain ⟨v, e1, r⟩ := A.sl i _ e
  cases (show v = _ from r)
  exact ⟨_, e1, h f X S H σ _ A fun v S1 H1 d Γ1 ⟨b, ed, hc, h1⟩ A1 _ r1 => by
    subst ed
    exact ⟨a, b, rfl, r1, hc, E.nx S1 H1 _ _ h1 (A1.set_dat hi (d := .int (g a b)) rfl)⟩⟩
/-! ### list(range(..)) -/
theorem eo_rng1 {te : TE} (h : EG z te Γ fun d Γ1 => ∃ n : Int, d = .int n ∧ n ≤ 16777216 ∧ -16777216 ≤ n ∧ Φo (.lst (rng 0 n.toNat)) Γ1) : EO z (tLstRg (tRg1 te)) Γ Φo := fun f X S H σ Q A k =>
  h f X S H σ _ A fun v S1 H1 d Γ1 ⟨n, ed, b1, b2, h1⟩ A1 e1 r1 => by
    subst ed
    refine ⟨n, r1, ⟨by omega, by omega, by omega, by omega, by omega⟩, fun p hp => ?_⟩
    obtain ⟨g1, g2, g3⟩ := A1.free hp
    refine k p S1 _ _ Γ1 h1 (A1.laidO hp) e1 g2 g3 g1 ⟨rgV 0 n, upd_same, ?_⟩
    have : ∀ (l : List Nat), RepL z.K S1 (l.map fun i => D.int (0 + (i : Nat))) (l.map fun i => V.int (0 + (i : Nat))) := by
      intro l
      induction l with
      | nil => rfl
      | cons a l ih => exact ⟨_, _, rfl, rfl, ih⟩
    unfold rgV rng
    rw [Int.sub_zero]
    exact this _
end
end Z
namespace Z
open PySem L2
section
variable {z : Zx} {f : Fm} {Γ : List Sl} {Φ Φ' : D → List Sl → Prop} {G : GE} {te : TE} {ta : TA} {tt : TT} {t u : TS}
/-! ### cuts -/
theorem EG.mono (h : EG z te Γ Φ') (k : ∀ d Γ1, Φ' d Γ1 → Φ d Γ1) : EG z te Γ Φ := fun f X S H σ Q A q => h f X S H σ Q A fun v S2 H2 d Γ2 h2 => q v S2 H2 d Γ2 (k d Γ2 h2)
theorem TGz.mono {Φ Φ' : Bool → List Sl → Prop} (h : TGz z tt Γ Φ') (k : ∀ d Γ1, Φ' d Γ1 → Φ d Γ1) : TGz z tt Γ Φ := fun f X S H σ Q A q => h f X S H σ Q A fun b S2 H2 Γ2 h2 => q b S2 H2 Γ2 (k b Γ2 h2)
theorem sg_ifB (B : Bool) (h : TGz z tt Γ fun b Γ1 => b = B ∧ Γ1 = Γ) (ht : B = true → SG z t Γ G) (hf : B = false → SG z u Γ G) : SG z (tIfS tt t u) Γ G :=
  sg_if (h.mono fun b Γ1 ⟨e1, e2⟩ => by
    subst e1 e2
    exact ⟨ht, hf⟩)
/-- an int is stored, of which only P is kept -/
theorem sg_asgI {g : TG} (P : Int → Prop) (h : EG z te Γ fun d Γ1 => Γ1 = Γ ∧ ∃ i, d = .int i ∧ P i) (k : ∀ i, P i → GGz z g (.int i) Γ G.nx) : SG z (tAsg te g) Γ G :=
  sg_asg (h.mono fun d Γ1 ⟨e, i, ed, p⟩ => by
    subst e ed
    exact k i p)
/-- what holds behind both ways of an if -/
theorem sg_ifJ (J : List Sl → Prop) (h : SG z (tIfS tt t u) Γ { G with nx := J }) (k : ∀ Γ1, J Γ1 → G.nx Γ1) : SG z (tIfS tt t u) Γ G := fun f X S H σ D A E =>
  h f X S H σ D A ⟨fun S H σ Γ q => E.nx S H σ Γ (k Γ q), E.rt, E.rto, E.bk, E.ct⟩
theorem SG.mono {G' : GE} (h : SG z t Γ G') (k1 : ∀ Γ1, G'.nx Γ1 → G.nx Γ1) (k2 : ∀ r Γ1, G'.rt r Γ1 → G.rt r Γ1) (k3 : ∀ Γ1, G'.bk Γ1 → G.bk Γ1) (k4 : ∀ Γ1, G'.ct Γ1 → G.ct Γ1) : SG z t Γ G := fun f X S H σ D A E =>
  h f X S H σ D A ⟨fun S H σ Γ q => E.nx S H σ Γ (k1 Γ q), fun S H σ Γ d v q => E.rt S H σ Γ d v (k2 _ Γ q), fun S H σ Γ p o q => E.rto S H σ Γ p o (k2 _ Γ q), fun S H σ Γ q => E.bk S H σ Γ (k3 Γ q), fun S H σ Γ q => E.ct S H σ Γ (k4 Γ q)⟩
theorem gg_pen {g : TG} {d : D} {Φs : List Sl → Prop} {i : Nat} {l : Bool} {p : Addr} {k : Nat} (e : Γ[i]? = some (.own l p (.pen k))) (h : ∀ cs x n, PenOk k cs x n → GGz z g d (Γ.set i (.own l p (.lst [.lst (cs.map D.int), .int x, .int n]))) Φs) : GGz z g d Γ Φs := fun f X S H σ v Q A r k => by
  obtain ⟨q1, q2, q3, cs', x', n', vs', hp', g1, g2⟩ := A.sl i _ e
  refine h cs' x' n' hp' f X S H σ v Q ?_ r k
  exact
    { sub := A.sub, ex := A.ex, keep := A.keep, fresh := A.fresh, stay := A.stay, len := A.len,
      nd := by
        rw [owns_reset (s' := .own l p (.lst [.lst (cs'.map Z.D.int), .int x', .int n'])) e rfl]
        exact A.nd
      sl := fun j s e1 => by
        rcases get_set e1 with ⟨rfl, rfl⟩ | ⟨_, e2⟩
        · exact ⟨q1, q2, q3, vs', g1, g2⟩
        · exact A.sl j s e2
      sys := A.sys }
/-! ### lists as data -/
theorem eg_slL {tl th : TO} (h : EG z te Γ fun d Γ1 => ∃ ds, (d = .lst ds ∨ d = .fro ds) ∧ OPz z tl Γ1 fun lo Γ2 => OPz z th Γ2 fun hi Γ3 => Φ (.lst (cutD ds lo hi)) Γ3) : EG z (tSl (rSlL z.K) te tl th) Γ Φ :=
  eg_eo (eo_slL (h.mono fun d Γ1 ⟨ds, e, q⟩ => ⟨ds, e, fun f X S H σ Q A k => q f X S H σ Q A fun o S2 H2 Γ2 h2 => k o S2 H2 Γ2 (fun f X S H σ Q A k => h2 f X S H σ Q A fun o S2 H2 Γ2 h3 => k o S2 H2 Γ2 ⟨_, rfl, h3⟩)⟩))
abbrev rList (K : PySem.W.Frag) : List V → Hp → VK → Prop := fun xs H Q => ∃ p ys, xs = [.ref p] ∧ (SqL K H p ys ∨ SqT K H p ys) ∧ ∀ l, H l = none → Q (.ref l) (upd H l (.lst ys))
theorem eg_list (h : AGz z ta Γ fun as Γ1 => ∃ d ds, as = [.dat d] ∧ (d = .lst ds ∨ d = .tup ds ∨ d = .fro ds) ∧ Φ (.lst ds) Γ1) : EG z (tCB (rList z.K) ta) Γ Φ :=
  eg_eo (eo_cb fun f X S H σ Q A k => h f X S H σ Q A fun vs S2 H2 as Γ2 ⟨d, ds, e, hd, q⟩ A2 e2 r2 => by
    subst e
    exact k vs S2 H2 _ Γ2 (co_list hd ⟨_, rfl, q⟩) A2 e2 r2)
/-- one's own list, read as a pen again at the end -/
theorem fmod_lo {a : Int} : 0 ≤ a.fmod 2147483587 ∧ a.fmod 2147483587 < 2147483587 ∧ 0 ≤ a.fmod 2147483563 ∧ a.fmod 2147483563 < 2147483563 ∧ 0 ≤ a.fmod 2147483549 ∧ a.fmod 2147483549 < 2147483549 := by
  rw [Int.fmod_eq_emod_of_nonneg _ (by decide), Int.fmod_eq_emod_of_nonneg _ (by decide), Int.fmod_eq_emod_of_nonneg _ (by decide)]
  omega
theorem atI_mod {α : Type} {l : List α} (h : l ≠ []) (i : Int) : ∃ d, d ∈ l ∧ atI l (i.fmod (l.length : Int)) = some d := by
  have hn : 0 < l.length := List.length_pos_iff.mpr h
  rw [Int.fmod_eq_emod_of_nonneg _ (by omega)]
  have h1 := Int.emod_nonneg i (show (l.length : Int) ≠ 0 by omega)
  have h2 := Int.emod_lt_of_pos i (show (0 : Int) < (l.length : Int) by omega)
  generalize i % (l.length : Int) = m at h1 h2
  have h3 : m.toNat < l.length := by omega
  refine ⟨l[m.toNat], List.getElem_mem h3, ?_⟩
  unfold atI ixN
  rw [if_pos h1, if_pos h2]
  exact List.getElem?_eq_getElem h3
theorem ints_nil {cs : List Int} : PyData.eqv (.list (cs.map PyData.int)) (.list []) = decide (cs = []) := by
  cases cs with
  | nil => rw [List.map_nil, PyData.eqv, PyData.eqvAll]; rfl
  | cons a l => rw [List.map_cons, PyData.eqv, PyData.eqvAll]; simp
theorem pyL_ints : ∀ cs : List Int, pyL (cs.map D.int) = some (cs.map PyData.int)
  | [] => by rw [List.map_nil, pyL]; rfl
  | a :: l => by rw [List.map_cons, pyL, pyL_ints l, py_int]; rfl
theorem shapedAll_ints : ∀ cs : List Int, PyData.canLayAll0 (cs.map PyData.int) = true ∧ PyData.depthAll (cs.map PyData.int) = 0
  | [] => by rw [List.map_nil, PyData.canLayAll0, PyData.depthAll]; exact ⟨rfl, rfl⟩
  | a :: l => by
    obtain ⟨h1, h2⟩ := shapedAll_ints l
    rw [List.map_cons, PyData.canLayAll0, PyData.depthAll, h1, h2, PyData.canLay0, PyData.depth]
    exact ⟨rfl, rfl⟩
theorem shaped_ints {cs : List Int} : SeqAt.shaped (.list (cs.map PyData.int)) = true := by
  obtain ⟨h1, h2⟩ := shapedAll_ints cs
  rw [SeqAt.shaped, PyData.canLay0, PyData.depth, h1, h2]
  rfl
theorem py_ints {cs : List Int} : D.py (.lst (cs.map D.int)) = some (.list (cs.map PyData.int)) := by rw [py_lst, pyL_ints]; rfl
end
end Z
namespace Z
open PySem L2
section
variable {z : Zx} {f : Fm} {S S2 H H2 : Hp} {σ : St} {Γ : List Sl} {Φ Φ' : D → List Sl → Prop} {Φo : Ob → List Sl → Prop} {G : GE} {te tb : TE} {ta : TA} {tt : TT} {t u : TS}
theorem eo_callN {Ψ : Pr} (h : AGz z ta Γ fun as Γ1 => (ixs as).Nodup ∧ Ψ (as.map (aaOf Γ1)) (gotO Φo Γ1 as) fun _ _ => False) : EO z (zCall (spZ z.K Ψ) [] (fun _ => E0) ta) Γ Φo := fun f X S H σ Q A k =>
  h f X S H σ _ A fun vs S1 H1 as Γ1 ⟨nd, p⟩ A1 e1 r => by
    rw [List.append_nil]
    exact call_core A1 r nd p (fun v S2 H2 d os q A2 e2 rr => q.elim) (fun b S2 H2 o os q A2 e2 n1 n2 n3 rr => k b S2 H2 o _ q A2 (e1.trans e2) n1 n2 n3 rr) fun x S2 H2 os c d q A2 ea => q
theorem eg_cat (h : EG z te Γ fun a Γ1 => EG z tb Γ1 fun b Γ2 => ∃ xs ys, a = .lst xs ∧ b = .lst ys ∧ xs.length + ys.length ≤ 1000000 ∧ Φ (.lst (xs ++ ys)) Γ2) : EG z (tOp rCat te tb) Γ Φ :=
  eg_eo (eo_cat (h.mono fun a Γ1 q => q.mono fun b Γ2 ⟨xs, ys, e1, e2, e3, e4⟩ => ⟨xs, ys, e1, e2, e3, _, rfl, e4⟩))
theorem eg_rng1 (h : EG z te Γ fun d Γ1 => ∃ n : Int, d = .int n ∧ n ≤ 16777216 ∧ -16777216 ≤ n ∧ Φ (.lst (rng 0 n.toNat)) Γ1) : EG z (tLstRg (tRg1 te)) Γ Φ :=
  eg_eo (eo_rng1 (h.mono fun d Γ1 ⟨n, e1, e2, e3, e4⟩ => ⟨n, e1, e2, e3, _, rfl, e4⟩))
/-! ### dicts are made -/
theorem eo_dnew (h : Φo (.dct [] []) Γ) : EO z tDNewK Γ Φo := fun f X S H σ Q A k => fun p hp => by
  obtain ⟨g1, g2, g3⟩ := A.free hp
  exact k p S _ _ Γ h (A.laidO hp) (Ex.refl S) g2 g3 g1 ⟨[], upd_same, rfl, rfl⟩
theorem eg_dnew (h : Φ (.dct [] []) Γ) : EG z tDNewK Γ Φ := eg_eo (eo_dnew ⟨_, rfl, h⟩)
def kD : Key → D
  | .inl i => .int i
  | .inr x => .str x
def keysOf : List D → Option (List Key)
  | [] => some []
  | .int i :: r => (keysOf r).map (.inl i :: ·)
  | .str x :: r => (keysOf r).map (.inr x :: ·)
  | _ :: _ => none
theorem keysOf_eq : ∀ {ds : List D} {ks : List Key}, keysOf ds = some ks → ds = ks.map kD
  | [], ks, h => by cases h; rfl
  | d :: r, ks, h => by
    cases d with
    | int i =>
      obtain ⟨l, e, rfl⟩ := Option.map_eq_some_iff.mp (show (keysOf r).map (.inl i :: ·) = some ks from h)
      rw [List.map_cons, ← keysOf_eq e]
      rfl
    | str x =>
      obtain ⟨l, e, rfl⟩ := Option.map_eq_some_iff.mp (show (keysOf r).map (.inr x :: ·) = some ks from h)
      rw [List.map_cons, ← keysOf_eq e]
      rfl
    | _ => cases h
def RepP (K : PySem.W.Frag) (S : Hp) (ps : List (D × D)) (vs : List (V × V)) : Prop := RepL K S (ps.map (·.1)) (vs.map (·.1)) ∧ RepL K S (ps.map (·.2)) (vs.map (·.2))
def PZ (z : Zx) (t : List (TE × TE)) (Γ : List Sl) (Φ : List (D × D) → List Sl → Prop) : Prop := ∀ f, XOk z f → ∀ S H σ (Q : List (V × V) → Hp → Prop), AtZ z f S H σ Γ → (∀ vs S2 H2 ps Γ2, Φ ps Γ2 → AtZ z f S2 H2 σ Γ2 → Ex S S2 → RepP z.K S2 ps vs → Q vs H2) → tPairs t σ H Q
variable {Φp : List (D × D) → List Sl → Prop}
theorem pz_nil (h : Φp [] Γ) : PZ z [] Γ Φp := fun f X S H σ Q A k => k [] S H [] Γ h A (Ex.refl S) ⟨rfl, rfl⟩
theorem pz_cons {r : List (TE × TE)} (h : EG z te Γ fun a Γ1 => EG z tb Γ1 fun b Γ2 => PZ z r Γ2 fun ps Γ3 => Φp ((a, b) :: ps) Γ3) : PZ z ((te, tb) :: r) Γ Φp := fun f X S H σ Q A k =>
  h f X S H σ _ A fun v S1 H1 a Γ1 h1 A1 e1 r1 => h1 f X S1 H1 σ _ A1 fun u S2 H2 b Γ2 h2 A2 e2 r2 => h2 f X S2 H2 σ _ A2 fun vs S3 H3 ps Γ3 h3 A3 e3 r3 =>
    k ((v, u) :: vs) S3 H3 _ Γ3 h3 A3 ((e1.trans e2).trans e3) ⟨⟨v, _, rfl, (r1.mono e2 a).mono e3 a, r3.1⟩, ⟨u, _, rfl, r2.mono e3 b, r3.2⟩⟩
theorem owns_app (Γ : List Sl) (l : Bool) (p : Addr) (o : Ob) : owns (Γ ++ [.gh l p o]) = owns Γ ++ [p] := by
  unfold owns
  rw [List.filterMap_append]
  rfl
/-- a new object, still without a name -/
theorem At.ghost {K : PySem.W.Frag} {n : Nat} (A : At K n f S H σ Γ) {p : Addr} {o : Ob} (h1 : p ∉ owns Γ) (h2 : S p = none) (h3 : f.H p = none) (r : ObRep K S H p o) : At K n f S H σ (Γ ++ [.gh true p o]) where
  sub := A.sub
  ex := A.ex
  keep := A.keep
  fresh := A.fresh
  stay := A.stay
  len := A.len
  nd := by
    rw [owns_app]
    exact List.nodup_append.mpr ⟨A.nd, by simp, fun a ha b hb => by
      simp only [List.mem_singleton] at hb
      subst hb
      exact fun e => h1 (e ▸ ha)⟩
  sys := A.sys
  sl := fun i s e => by
    rw [List.getElem?_append] at e
    by_cases hi : i < Γ.length
    · rw [if_pos hi] at e
      exact A.sl i s e
    · rw [if_neg hi] at e
      cases q : i - Γ.length with
      | zero =>
        rw [q] at e
        cases e
        exact ⟨h2, h3, r⟩
      | succ m =>
        rw [q] at e
        cases e
theorem At.unghost {K : PySem.W.Frag} {n : Nat} {p : Addr} {o : Ob} {u : HO} (A : At K n f S H σ (Γ ++ [.gh true p o])) : At K n f S (upd H p u) σ Γ ∧ p ∉ owns Γ ∧ S p = none ∧ f.H p = none ∧ ObRep K S H p o := by
  have nd := A.nd
  rw [owns_app] at nd
  have np : p ∉ owns Γ := fun m => (List.nodup_append.mp nd).2.2 p m p (by simp) rfl
  have last : (Γ ++ [Sl.gh true p o])[Γ.length]? = some (.gh true p o) := by rw [List.getElem?_append_right (Nat.le_refl _), Nat.sub_self]; rfl
  obtain ⟨q1, q2, q3⟩ := A.sl _ _ last
  have q2 : f.H p = none := q2
  refine ⟨?_, np, q1, q2, q3⟩
  exact
    { sub := A.sub, ex := A.ex.upd q1
      keep := fun a o h1 h2 => by
        have ne : a ≠ p := fun e => by rw [e, q2] at h1; cases h1
        rw [upd_ne ne]
        exact A.keep a o h1 h2
      fresh := A.fresh
      stay := fun a u' h => by
        have ne : a ≠ p := fun e => by rw [e, q2] at h; cases h
        obtain ⟨w, q⟩ := A.stay a u' h
        exact ⟨w, by rw [upd_ne ne]; exact q⟩
      len := A.len
      nd := (List.nodup_append.mp nd).1
      sys := A.sys
      sl := fun j s e => by
        have hj : j < Γ.length := (List.getElem?_eq_some_iff.mp e).1
        have e' : (Γ ++ [Sl.gh true p o])[j]? = some s := by rw [List.getElem?_append_left hj]; exact e
        refine (A.sl j s e').keep (Ex.refl S) (fun _ _ h => .inl h) fun q w ha hw => ?_
        rw [upd_ne fun y => np (of_owns e (by rw [ha, y]))]
        exact hw }
theorem mergeK_nodup : ∀ (more kvs : List (Key × V)), ((kvs ++ more).map (·.1)).Nodup → mergeK kvs more = kvs ++ more
  | [], kvs, _ => by rw [List.append_nil]; rfl
  | p :: r, kvs, h => by
    have e : putK kvs p.1 p.2 = kvs ++ [p] := by
      unfold putK
      rw [if_neg]
      intro q
      obtain ⟨kv, m, e⟩ := List.any_eq_true.mp q
      rw [List.map_append, List.map_cons] at h
      exact (List.nodup_append.mp h).2.2 kv.1 (List.mem_map_of_mem m) p.1 (by simp) (of_decide_eq_true e)
    show mergeK (putK kvs p.1 p.2) r = _
    rw [e, mergeK_nodup r (kvs ++ [p]) (by rw [List.append_assoc]; exact h), List.append_assoc]
    rfl
theorem rep_keys {K : PySem.W.Frag} {S : Hp} : ∀ {ks : List Key} {vs : List (V × V)}, RepL K S (ks.map kD) (vs.map (·.1)) → ∃ kvs : List (Key × V), vs = kvs.map (fun kv => (kV kv.1, kv.2)) ∧ kvs.map (·.1) = ks ∧ kvs.map (·.2) = vs.map (·.2)
  | [], [], _ => ⟨[], rfl, rfl, rfl⟩
  | [], _ :: _, h => by cases (show _ :: _ = [] from h)
  | k :: ks, [], h => by obtain ⟨v, r, e, _⟩ := h; cases e
  | k :: ks, p :: vs, h => by
    obtain ⟨v, r, e, h1, h2⟩ := h
    injection e with e1 e2
    subst e1 e2
    obtain ⟨kvs, e1, e2, e3⟩ := rep_keys h2
    refine ⟨(k, p.2) :: kvs, ?_, by rw [List.map_cons, e2], by rw [List.map_cons, e3]; rfl⟩
    have : p.1 = kV k := by
      cases k with
      | inl i => exact h1
      | inr x => exact h1
    rw [List.map_cons, ← e1, ← this]
theorem eo_disp {t : List (TE × TE)} (h : ∀ p, PZ z t (Γ ++ [.gh true p (.dct [] [])]) fun ps Γ1 => ∃ Γ2 ks, Γ1 = Γ2 ++ [.gh true p (.dct [] [])] ∧ ps.map (·.1) = ks.map kD ∧ ks.Nodup ∧ ks.length ≤ 15 ∧ Φo (.dct ks (ps.map (·.2))) Γ2) : EO z (tDisp t) Γ Φo := fun f X S H σ Q A k => fun p hp => by
  obtain ⟨g1, g2, g3⟩ := A.free hp
  have A0 := (A.laidO (u := .dK []) hp).ghost g2 g3 g1 (o := .dct [] []) ⟨[], upd_same, rfl, rfl⟩
  refine h p f X S _ σ _ A0 fun vs S2 H2 ps Γ2 ⟨Γ3, ks, e1, e2, nd, hl, q⟩ A2 ee r => ?_
  subst e1
  obtain ⟨kvs, r1, r2, r3⟩ := rep_keys (ks := ks) (by rw [← e2]; exact r.1)
  obtain ⟨B, b1, b2, b3, b4⟩ := A2.unghost (u := .dK (mergeK [] kvs))
  obtain ⟨kv0, c1, c2, _⟩ := b4
  have c3 : kv0 = [] := by cases kv0 with | nil => rfl | cons a b => cases c2
  subst c3
  have lk : kvs.length ≤ 15 := by
    have := congrArg List.length r2
    rw [List.length_map] at this
    omega
  have mk : mergeK [] kvs = kvs := mergeK_nodup kvs [] (by rw [List.nil_append, r2]; exact nd)
  refine ⟨c1, kvs, r1, lk, k p S2 _ _ Γ3 q B ee b1 b2 b3 ⟨kvs, by rw [mk]; exact upd_same, r2, by rw [r3]; exact r.2⟩⟩
theorem eo_dispK {t : List (TE × TE)} (h : ∀ p, PZ z t (Γ ++ [.gh true p (.dct [] [])]) fun ps Γ1 => ∃ ks, keysOf (ps.map (·.1)) = some ks ∧ Γ1.dropLast ++ [.gh true p (.dct [] [])] = Γ1 ∧ ks.Nodup ∧ ks.length ≤ 15 ∧ Φo (.dct ks (ps.map (·.2))) Γ1.dropLast) : EO z (tDisp t) Γ Φo :=
  eo_disp fun p f X S H σ Q A k => h p f X S H σ Q A fun vs S2 H2 ps Γ2 ⟨ks, e1, e2, e3, e4, q⟩ => k vs S2 H2 ps Γ2 ⟨_, ks, e2.symm, keysOf_eq e1, e3, e4, q⟩
theorem eg_disp {t : List (TE × TE)} (h : ∀ p, PZ z t (Γ ++ [.gh true p (.dct [] [])]) fun ps Γ1 => ∃ ks, keysOf (ps.map (·.1)) = some ks ∧ Γ1.dropLast ++ [.gh true p (.dct [] [])] = Γ1 ∧ ks.Nodup ∧ ks.length ≤ 15 ∧ Φ (.dct ks (ps.map (·.2))) Γ1.dropLast) : EG z (tDisp t) Γ Φ :=
  eg_eo (eo_dispK fun p f X S H σ Q A k => h p f X S H σ Q A fun vs S2 H2 ps Γ2 ⟨ks, e1, e2, e3, e4, q⟩ => k vs S2 H2 ps Γ2 ⟨ks, e1, e2, e3, e4, _, rfl, q⟩)
theorem pss_cast {X : Cx} {b : List Stmt} {t t' : TS} (h : PSs X b t) (e : t = t') : PSs X b t' := by rw [← e]; exact h
/-! ### repr -/
def D.showsB (d : D) : Bool := match d.py with
  | some pd => pd.showable && (decide (pd.depth ≤ 50) && decide (pd.shown.length ≤ sizeLine))
  | none => false
theorem shows_of {d : D} (h : d.showsB = true) : ∃ pd, d.shows pd := by
  unfold D.showsB at h
  cases e : d.py with
  | none => rw [e] at h; cases h
  | some pd =>
    rw [e] at h
    obtain ⟨h1, h⟩ := He.ba h
    obtain ⟨h2, h3⟩ := He.ba h
    exact ⟨pd, e, h1, of_decide_eq_true h2, of_decide_eq_true h3⟩
end
end Z
namespace T
open PySem L2 Z
def top (i : Nat) : Stmt := PySem.Challenge.pw_rankkeys_k44_survival_of_gaps.main.body.getD i (.Pass ⟨0, 0, 0, 0⟩)
/-- what the walks read of the module -/
structure Txt (K : PySem.W.Frag) (mg : Str → Option Value) : Prop where
  f_bool : mg "bool" = none
  f_int : mg "int" = none
  f_isinstance : mg "isinstance" = none
  f_len : mg "len" = none
  f_list : mg "list" = none
  f_range : mg "range" = none
  f_repr : mg "repr" = none
  x_InvalidAmount : Xc K mg "InvalidAmount"
  g_InvalidAmount : mg "InvalidAmount" = some (.ref (He.ga K "InvalidAmount"))
  g_InvalidGap : mg "InvalidGap" = some (.ref (He.ga K "InvalidGap"))
  g_InvalidIndex : mg "InvalidIndex" = some (.ref (He.ga K "InvalidIndex"))
  g_InvalidNumber : mg "InvalidNumber" = some (.ref (He.ga K "InvalidNumber"))
  g_NoRoom : mg "NoRoom" = some (.ref (He.ga K "NoRoom"))
  g_RankError : mg "RankError" = some (.ref (He.ga K "RankError"))
  e_InvalidAmount : ExcC K (He.ga K "InvalidAmount")
  k_InvalidAmount_InvalidAmount : PySem.W.kitOne K (.ref (He.ga K "InvalidAmount")) (.ref (He.ga K "InvalidAmount")) = some true
  k_InvalidAmount_InvalidGap : PySem.W.kitOne K (.ref (He.ga K "InvalidAmount")) (.ref (He.ga K "InvalidGap")) = some false
  k_InvalidAmount_InvalidIndex : PySem.W.kitOne K (.ref (He.ga K "InvalidAmount")) (.ref (He.ga K "InvalidIndex")) = some false
  k_InvalidAmount_InvalidNumber : PySem.W.kitOne K (.ref (He.ga K "InvalidAmount")) (.ref (He.ga K "InvalidNumber")) = some false
  k_InvalidAmount_NoRoom : PySem.W.kitOne K (.ref (He.ga K "InvalidAmount")) (.ref (He.ga K "NoRoom")) = some false
  m_InvalidAmount_RankError : PySem.W.exmOne K (.ref (He.ga K "InvalidAmount")) (.ref (He.ga K "RankError")) = some true
abbrev FunOk (K : PySem.W.Frag) (x : Str) (st : Stmt) : Prop := ∃ fd, FunD K x x (defArgs st) (defBody st) (defScope st) [] [] (He.ga K x) fd
end T
namespace T
open PySem L2 Z
local macro_rules
  | `(tactic| walk_at "k") => `(tactic| dsimp only [cxOf, mkSl, List.replicate, List.length_cons, List.length_nil, List.cons_append, List.nil_append, Nat.reduceAdd, Nat.reduceSub, Int.reduceToNat, reown, ixs, gotD, gotO, List.dropLast, List.set, List.map, aaOf, List.getElem?_cons_zero, List.getElem?_cons_succ, dats, Option.map])
local macro_rules
  | `(tactic| walk_at "z") => `(tactic| (first
    | with_reducible exact True.intro
    | with_reducible refine sg_next ?_
    | with_reducible refine sg_asg ?_
    | with_reducible refine sg_if ?_
    | with_reducible refine sg_raise ?_
    | with_reducible refine sg_break ?_
    | with_reducible refine sg_cont ?_
    | (with_reducible refine sg_drop ?_)
    | ((with_reducible apply sg_aug); rfl; exact Nat.le_of_ble_eq_true rfl)
    | ((with_reducible apply eg_var); rfl)
    | with_reducible refine eg_i ?_
    | with_reducible refine eg_b ?_
    | with_reducible refine eg_n ?_
    | with_reducible refine eg_s ?_
    | with_reducible refine eg_raw ?_
    | ((with_reducible apply eg_ixO); rfl)
    | with_reducible refine eg_cat ?_
    | with_reducible refine eg_op ?_
    | with_reducible refine eg_un ?_
    | with_reducible refine og_I0i ?_
    | with_reducible refine og_I0b ?_
    | ((with_reducible refine og_I ?cond ?_); case cond => first | (left; constructor <;> decide) | (right; constructor <;> decide) | decide | exact ⟨by decide, by decide, by decide⟩ | exact ⟨by decide, by decide +kernel⟩ | assumption)
    | with_reducible refine og_eqI ?_
    | with_reducible refine og_neI ?_
    | with_reducible refine og_eqS ?_
    | with_reducible refine og_neS ?_
    | with_reducible refine og_eqB ?_
    | with_reducible refine og_neB ?_
    | ((with_reducible apply og_eqD); rfl; rfl; rfl; rfl)
    | with_reducible refine ug_U ?_
    | with_reducible refine tg_test ?_
    | with_reducible refine tg_B ?_
    | with_reducible refine tg_and ?_
    | with_reducible refine tg_or ?_
    | with_reducible refine tg_not ?_
    | with_reducible refine eg_callN ?_
    | with_reducible refine eo_callN ?_
    | with_reducible refine eg_rng1 ?_
    | with_reducible refine eg_dnew ?_
    | (with_reducible refine eg_disp fun p => ?_)
    | with_reducible refine pz_nil ?_
    | with_reducible refine pz_cons ?_
    | ((with_reducible apply sg_asgo); exact Nat.le_of_ble_eq_true rfl)
    | with_reducible refine eg_call ?_
    | with_reducible refine eo_call ?_
    | with_reducible refine eg_list ?_
    | with_reducible refine eg_slL ?_
    | with_reducible refine eg_cb ?_
    | with_reducible refine eo_cb ?_
    | with_reducible refine ag_nil ?_
    | ((with_reducible apply ag_own); rfl)
    | with_reducible refine ag_cons ?_
    | with_reducible refine eg_tup ?_
    | with_reducible refine eg_lst ?_
    | with_reducible refine eo_lst ?_
    | with_reducible refine op_no ?_
    | with_reducible refine op_some ?_
    | ((with_reducible apply gg_name); exact Nat.le_of_ble_eq_true rfl)
    | ((with_reducible apply gg_setL); rfl)
    | ((with_reducible apply cg_len); rfl; exact True.intro)
    | ((with_reducible apply cg_isP); assumption; decide)
    | ((with_reducible apply cg_isP); rfl; decide)
    | refine ⟨_, _, _, rfl, rfl, rfl, ?_⟩
    | refine ⟨_, rfl, rfl, by first | decide | decide +kernel, Nat.le_of_ble_eq_true rfl, ?_⟩
    | refine ⟨_, rfl, ?_⟩
    | refine ⟨Nat.le_of_ble_eq_true rfl, ?_⟩
    ) <;> try walk_at "k")
local macro_rules
  | `(tactic| walk_at "zs") => `(tactic| repeat walk_at "z")
local macro_rules
  | `(tactic| walk_at "n") => `(tactic| (with_reducible refine sg_seq ?_); try walk_at "k")
local macro_rules
  | `(tactic| walk_at "ns") => `(tactic| ((with_reducible refine sg_seq ?_); (try walk_at "k"); repeat walk_at "z"))
local macro_rules
  | `(tactic| walk_at "zz") => `(tactic| repeat (first | ((with_reducible refine sg_seq ?_); try walk_at "k") | walk_at "z"))
local macro_rules
  | `(tactic| walk_at "r") => `(tactic| (first | with_reducible refine sg_retN ?_ | with_reducible refine sg_ret ?_); (try walk_at "k"); repeat walk_at "z")
local macro_rules
  | `(tactic| walk_at "keep") => `(tactic| ((refine sg_keep ?_ ?_ ?_ fun W => ?_); (exact Nat.le_of_ble_eq_true rfl); (exact Nat.le_of_ble_eq_true rfl); decide; (try walk_at "k"); repeat walk_at "z"))
/-! ### _law_next -/
abbrev st__law_next : Stmt := top 11
def pr__law_next : Pr := fun as Φ Φe => ∃ k : Nat, as = [.own (.pen k)] ∧ k < 1000000000000 ∧ ∀ n : Int, 0 ≤ n → Φ (.dat (.int n)) [.pen (k + 1)]
theorem sc__law_next : FnScope ["_law_pen_here", "_law_index", "_law_cell", "_law_low", "_law_mid", "_law_top"] ["_law_pen_here"] (defScope st__law_next) := ⟨rfl, rfl, rfl, by decide +kernel, rfl, by decide +kernel, by decide +kernel⟩
theorem ok__law_next {P : Program} {w : World} {K : PySem.W.Frag} {mg : Str → Option Value} {base : Heap} (T : Txt K mg) (F : FunOk K "_law_next" st__law_next) (g : mg "_law_next" = some (.ref (He.ga K "_law_next"))) : DefOk P w K mg base 1 "_law_next" ["_law_pen_here"] pr__law_next := by
  obtain ⟨fd, F⟩ := F
  refine ⟨⟨fd, fn_z F sc__law_next (fun as Φ Φe h => ?_) (fun cdv A outer s H E hr => ?_), F.bindsN fun _ _ _ _ _ _ us hl => match us, hl with | [_], _ => rfl, F.kp⟩, g⟩
  · obtain ⟨k, rfl, hk, h⟩ := h
    rfl
  · have nd := sc__law_next.nd
    refine ⟨_, (pss_cons (ps_set (i := 1) nd rfl (Or.inl rfl) (pe_ix ix_list (pv 0) pe_int (fun _ _ => rfl)))
    (pss_cons (ps_asg (pe_op op_add (pv 1) pe_int) (pg_sub (pv 0) pe_int set_list))
    (pss_cons (ps_set (i := 2) nd rfl (Or.inl rfl) (pe_op op_add (pe_op op_mul (pv 1) pe_int) pe_int))
    (pss_cons (ps_if (pt_cmpR (op_neD hr.r.units) (pe_ix ix_list (pv 0) pe_int (fun _ _ => rfl)) (pe_lst pa_nil) (nomark _))
      (pss_one (ps_set (i := 2) nd rfl (Or.inl rfl) (pe_ix ix_list (pe_ix ix_list (pv 0) pe_int (fun _ _ => rfl)) (pe_op op_modN (pv 1) (pe_callB call_len (by rfl) T.f_len (by decide +kernel) (pa_cons (pe_ix ix_list (pv 0) pe_int (fun _ _ => rfl)) pa_nil))) (fun _ _ => rfl))))
      pss_nil)
    (pss_cons (ps_if (PW.pt (pw_and (pt_cmpR op_lt (pv 1) (pe_callB call_len (by rfl) T.f_len (by decide +kernel) (pa_cons (pe_ix ix_list (pv 0) pe_int (fun _ _ => rfl)) pa_nil)) (nomark _)) (pw_and1 (pt_cmpR op_ge (pv 2) (pe_op op_pow pe_int pe_int) (nomark _)))))
      (pss_one (ps_ret (pv 2)))
      pss_nil)
    (pss_cons (ps_set (i := 3) nd rfl (Or.inl rfl) (pe_op op_modN (pe_op op_add (pe_op op_add (pe_op op_modN (pv 2) pe_int) (pe_op op_mul (pv 1) pe_int)) pe_int) pe_int))
    (pss_cons (ps_set (i := 4) nd rfl (Or.inl rfl) (pe_op op_modN (pe_op op_add (pe_op op_add (pe_op op_mul (pv 3) (pv 3)) (pe_op op_mul (pv 1) pe_int)) pe_int) pe_int))
    (pss_cons (ps_set (i := 5) nd rfl (Or.inl rfl) (pe_op op_modN (pe_op op_add (pe_op op_add (pe_op op_mul (pv 4) (pv 4)) (pv 3)) (pe_op op_mul (pe_op op_mul (pv 1) (pv 1)) pe_int)) pe_int))
    (pss_one (ps_ret (pe_op op_add (pe_op op_mul (pe_op op_add (pe_op op_mul (pv 5) pe_int) (pv 4)) pe_int) (pv 3)))))))))))), fun as qs Φ Φe h hq => ?_⟩
    obtain ⟨k, rfl, hk, h⟩ := h
    obtain ⟨q, rfl⟩ : ∃ q, qs = [q] := List.length_eq_one_iff.mp hq
    walk_at "k"
    refine sg_pen (i := 0) rfl fun cs x n ok => ?_
    obtain ⟨o1, o2, o3, o4, o5⟩ := ok
    walk_at "ns"
    walk_at "ns"
    walk_at "ns"
    generalize x * 1033 + 17 = cell
    walk_at "n"
    refine sg_ifJ (fun Γ => ∃ cell : Int, Γ = [.own false q (.lst [.lst (cs.map D.int), .int (x + 1), .int n]), .dat (.int x), .dat (.int cell), .no, .no, .no]) ?_ ?_
    · walk_at "zs"
      refine og_neD py_ints (pb := .list []) (by rw [py_lst, pyL]; rfl) shaped_ints rfl ?_
      rw [ints_nil]
      walk_at "zs"
      refine ⟨fun q1 => ?_, fun q1 => ?_⟩
      · have ne : cs ≠ [] := by simpa using q1
        obtain ⟨d, hd, e⟩ := atI_mod (l := cs.map D.int) (by simpa using ne) x
        obtain ⟨c, _, rfl⟩ := List.mem_map.mp hd
        walk_at "zs"
        refine og_I (by rw [List.length_map]; simpa using ne) ?_
        refine og_ixL e ?_
        walk_at "zs"
        exact ⟨_, rfl⟩
      · walk_at "zs"
        exact ⟨_, rfl⟩
    · rintro _ ⟨cell, rfl⟩
      have pen : ∀ S H, ObRep K S H q (.lst [.lst (cs.map D.int), .int (x + 1), .int n]) → ObRep K S H q (.pen (k + 1)) := fun S H => penOf ⟨by omega, by omega, by omega, o4, o5⟩
      walk_at "n"
      refine sg_ifJ (fun Γ => Γ = [.own false q (.pen (k + 1)), .dat (.int x), .dat (.int cell), .no, .no, .no]) ?_ ?_
      · walk_at "zs"
        refine ⟨fun q1 => ?_, fun q1 => ?_⟩
        · walk_at "zs"
          refine ⟨fun q2 => ?_, fun q2 => ?_⟩
          · refine sg_see (i := 0) rfl pen ?_
            walk_at "r"
            have q2 := of_decide_eq_true q2
            exact ⟨_, h _ (Int.le_trans (by decide) q2), _, _, 0, rfl, rfl, rfl⟩
          · refine sg_see (i := 0) rfl pen ?_
            walk_at "zs"
        · walk_at "zs"
          refine ⟨fun q2 => (nomatch q2), fun q2 => ?_⟩
          refine sg_see (i := 0) rfl pen ?_
          walk_at "zs"
      rintro _ rfl
      walk_at "n"
      refine sg_asgI (fun i => 0 ≤ i ∧ i < 2147483587) ?_ fun low hlow => ?_
      · walk_at "zs"
        exact ⟨rfl, _, rfl, fmod_lo.1, fmod_lo.2.1⟩
      walk_at "zs"
      walk_at "n"
      refine sg_asgI (fun i => 0 ≤ i ∧ i < 2147483563) ?_ fun mid hmid => ?_
      · walk_at "zs"
        refine og_I (.inl ⟨by omega, by omega⟩) ?_
        walk_at "zs"
        exact ⟨rfl, _, rfl, fmod_lo.2.2.1, fmod_lo.2.2.2.1⟩
      walk_at "zs"
      walk_at "n"
      refine sg_asgI (fun i => 0 ≤ i ∧ i < 2147483549) ?_ fun top htop => ?_
      · walk_at "zs"
        refine og_I (.inl ⟨by omega, by omega⟩) ?_
        walk_at "zs"
        refine og_I (.inl ⟨by omega, by omega⟩) ?_
        walk_at "zs"
        exact ⟨rfl, _, rfl, fmod_lo.2.2.2.2.1, fmod_lo.2.2.2.2.2⟩
      walk_at "zs"
      walk_at "r"
      exact ⟨_, h _ (by omega), _, _, 0, rfl, rfl, rfl⟩
/-! ### _law_draw -/
abbrev st__law_draw : Stmt := top 12
def pr__law_draw : Pr := fun as Φ Φe => ∃ (k : Nat) (n : Int), as = [.own (.pen k), .dat (.int n)] ∧ k < 1000000000000 ∧ 1 ≤ n ∧ n < 2 ^ 1000 ∧ ∀ j : Int, 0 ≤ j → j < n → Φ (.dat (.int j)) [.pen (k + 1)]
theorem sc__law_draw : FnScope ["_law_pen_here", "_law_below", "_law_digit"] ["_law_pen_here", "_law_below"] (defScope st__law_draw) := ⟨rfl, rfl, rfl, by decide +kernel, rfl, by decide +kernel, by decide +kernel⟩
theorem ok__law_draw {P : Program} {w : World} {K : PySem.W.Frag} {mg : Str → Option Value} {base : Heap} (T : Txt K mg) (F : FunOk K "_law_draw" st__law_draw) (g : mg "_law_draw" = some (.ref (He.ga K "_law_draw"))) (D__law_next : DefOk P w K mg base 1 "_law_next" ["_law_pen_here"] pr__law_next) : DefOk P w K mg base 2 "_law_draw" ["_law_pen_here", "_law_below"] pr__law_draw := by
  obtain ⟨fd, F⟩ := F
  refine ⟨⟨fd, fn_z F sc__law_draw (fun as Φ Φe h => ?_) (fun cdv A outer s H E hr => ?_), F.bindsN fun _ _ _ _ _ _ us hl => match us, hl with | [_, _], _ => rfl, F.kp⟩, g⟩
  · obtain ⟨k, n, rfl, hk, hn, hb, h⟩ := h
    rfl
  · have nd := sc__law_draw.nd
    refine ⟨_, (pss_cons (ps_if (pt_cmpR op_lt (pe_ix ix_list (pv 0) pe_int (fun _ _ => rfl)) (pv 1) (nomark _))
      (pss_one (ps_asg (pd_call D__law_next hr (by decide) rfl lets_none (pa_cons (pv 0) pa_nil)) (pg_sub (pv 0) pe_int set_list)))
      pss_nil)
    (pss_cons (ps_set (i := 2) nd rfl (Or.inl rfl) (pe_op op_modN (pe_ix ix_list (pv 0) pe_int (fun _ _ => rfl)) (pv 1)))
    (pss_cons (ps_asg (pe_op op_fdivW (pe_ix ix_list (pv 0) pe_int (fun _ _ => rfl)) (pv 1)) (pg_sub (pv 0) pe_int set_list))
    (pss_one (ps_ret (pv 2)))))), fun as qs Φ Φe h hq => ?_⟩
    obtain ⟨k, n, rfl, hk, hn, hb, h⟩ := h
    obtain ⟨q, rfl⟩ : ∃ q, qs = [q] := List.length_eq_one_iff.mp hq
    walk_at "k"
    have big : CDivW 0 n := ⟨by omega, by
      have : n.natAbs < 2 ^ 1000 := by omega
      exact Nat.lt_trans ((Nat.log2_lt (by omega)).mpr this) (by decide)⟩
    refine sg_pen (i := 0) rfl fun cs x m ok => ?_
    obtain ⟨o1, o2, o3, o4, o5⟩ := ok
    walk_at "n"
    refine sg_ifJ (fun Γ => ∃ cs x m, PenOk (k + 1) cs x m ∧ Γ = [.own false q (.lst [.lst (cs.map D.int), .int x, .int m]), .dat (.int n), .no]) ?_ ?_
    · walk_at "zs"
      refine ⟨fun q1 => ?_, fun q1 => ?_⟩
      · refine sg_see (i := 0) rfl (fun S H => penOf (k := k) ⟨o1, o2, o3, o4, o5⟩) ?_
        walk_at "zs"
        refine ⟨⟨_, rfl⟩, by decide, k, rfl, hk, fun m' hm' => ?_⟩
        walk_at "k"
        refine gg_pen (i := 0) rfl fun cs x m ok => ?_
        walk_at "zs"
        obtain ⟨p1, p2, p3, p4, p5⟩ := ok
        exact ⟨cs, x, m', ⟨p1, p2, p3, hm', p5⟩, rfl⟩
      · walk_at "zs"
        exact ⟨cs, x, m, ⟨o1, by omega, by omega, o4, o5⟩, rfl⟩
    · rintro _ ⟨cs, x, m, ⟨o1, o2, o3, o4, o5⟩, rfl⟩
      walk_at "ns"
      refine og_I (by omega) ?_
      walk_at "zs"
      walk_at "ns"
      rw [Int.fmod_eq_emod_of_nonneg _ (by omega)]
      have d1 := Int.emod_nonneg m (show n ≠ 0 by omega)
      have d2 := Int.emod_lt_of_pos m (show (0 : Int) < n by omega)
      refine sg_see (i := 0) rfl (fun S H => penOf (k := k + 1) ⟨o1, o2, o3, Int.ediv_nonneg o4 (by omega), o5⟩) ?_
      walk_at "r"
      exact ⟨_, h _ d1 d2, _, _, 0, rfl, rfl, rfl⟩
/-! ### _law_pen -/
abbrev st__law_pen : Stmt := top 10
def pr__law_pen : Pr := fun as Φ Φe => ∃ ns : List Int, as = [.dat (.fro (ns.map D.int))] ∧ Φ (.own (.pen 0)) []
theorem sc__law_pen : FnScope ["_law_script"] ["_law_script"] (defScope st__law_pen) := ⟨rfl, rfl, rfl, by decide +kernel, rfl, by decide +kernel, by decide +kernel⟩
theorem ok__law_pen {P : Program} {w : World} {K : PySem.W.Frag} {mg : Str → Option Value} {base : Heap} (T : Txt K mg) (F : FunOk K "_law_pen" st__law_pen) (g : mg "_law_pen" = some (.ref (He.ga K "_law_pen"))) : DefOk P w K mg base 1 "_law_pen" ["_law_script"] pr__law_pen := by
  obtain ⟨fd, F⟩ := F
  refine ⟨⟨fd, fn_z F sc__law_pen (fun as Φ Φe h => ?_) (fun cdv A outer s H E hr => ?_), F.bindsN fun _ _ _ _ _ _ us hl => match us, hl with | [_], _ => rfl, F.kp⟩, g⟩
  · obtain ⟨ns, rfl, h⟩ := h
    rfl
  · have nd := sc__law_pen.nd
    refine ⟨_, (pss_one (ps_ret (pe_lst (pa_cons (pe_callTy call_list_of (by rfl) T.f_list (by decide +kernel) (pa_cons (pe_slice sl_list (pv 0) po_none (po_some pe_int)) pa_nil)) (pa_cons pe_int (pa_cons pe_int pa_nil)))))), fun as qs Φ Φe h hq => ?_⟩
    obtain ⟨ns, rfl, h⟩ := h
    obtain rfl : qs = [] := List.length_eq_zero_iff.mp hq
    walk_at "k"
    refine sg_reto (eo_imp ?_)
    walk_at "zs"
    refine ⟨_, .inr rfl, ?_⟩
    walk_at "zs"
    refine ⟨_, _, rfl, .inl rfl, ?_⟩
    walk_at "zs"
    have e : cutD (ns.map D.int) none (some 60) = (ns.take 60).map D.int := by
      show List.take (min 60 _ - 0) (List.drop 0 _) = _
      rw [List.drop_zero, List.map_take, Nat.sub_zero, List.take_eq_take_iff, List.length_map]
      omega
    rw [e]
    exact ⟨_, fun S H p q => penOf ⟨by decide, by decide, by decide, by decide, by rw [List.length_take]; omega⟩ q, fun p => ⟨_, h, rfl⟩⟩
/-! ### _law_power -/
abbrev st__law_power : Stmt := top 13
def pr__law_power : Pr := fun as Φ Φe => ∃ (b e : Int), as = [.dat (.int b), .dat (.int e)] ∧ b.natAbs < 2 ^ 64 ∧ 0 ≤ e ∧ e ≤ 1000 ∧ Φ (.dat (.int (b ^ e.toNat))) []
theorem mulW_pow {b : Int} {i : Nat} (hb : b.natAbs < 2 ^ 64) (hi : i ≤ 1000) : CMulW (b ^ i) b := by
  have h1 : (b ^ i).natAbs ≤ (2 ^ 64) ^ i := by
    rw [Int.natAbs_pow]
    exact Nat.pow_le_pow_left (Nat.le_of_lt hb) i
  have h2 : ((2 : Nat) ^ 64) ^ i ≤ 2 ^ 64000 := by
    rw [← Nat.pow_mul]
    exact Nat.pow_le_pow_right (by decide) (by omega)
  have l1 : (b ^ i).natAbs.log2 ≤ 64000 := by
    by_cases z : (b ^ i).natAbs = 0
    · rw [z]; decide
    · exact Nat.le_of_lt_succ ((Nat.log2_lt z).mpr (Nat.lt_of_le_of_lt (Nat.le_trans h1 h2) (Nat.pow_lt_pow_right (by decide) (by decide))))
  have l2 : b.natAbs.log2 ≤ 64 := by
    by_cases z : b.natAbs = 0
    · rw [z]; decide
    · exact Nat.le_of_lt ((Nat.log2_lt z).mpr hb)
  unfold CMulW
  omega
theorem sc__law_power : FnScope ["_law_base", "_law_exponent", "_law_found", "_law_turn"] ["_law_base", "_law_exponent"] (defScope st__law_power) := ⟨rfl, rfl, rfl, by decide +kernel, rfl, by decide +kernel, by decide +kernel⟩
theorem ok__law_power {P : Program} {w : World} {K : PySem.W.Frag} {mg : Str → Option Value} {base : Heap} (T : Txt K mg) (F : FunOk K "_law_power" st__law_power) (g : mg "_law_power" = some (.ref (He.ga K "_law_power"))) : DefOk P w K mg base 1 "_law_power" ["_law_base", "_law_exponent"] pr__law_power := by
  obtain ⟨fd, F⟩ := F
  refine ⟨⟨fd, fn_z F sc__law_power (fun as Φ Φe h => ?_) (fun cdv A outer s H E hr => ?_), F.bindsN fun _ _ _ _ _ _ us hl => match us, hl with | [_, _], _ => rfl, F.kp⟩, g⟩
  · obtain ⟨b, e, rfl, hb, h0, h1, h⟩ := h
    rfl
  · have nd := sc__law_power.nd
    refine ⟨_, (pss_cons (ps_set (i := 2) nd rfl (Or.inl rfl) pe_int)
    (pss_cons (ps_for (passes_of rfl) rfl (pi_range1 (by rfl) T.f_range (pa_cons (pv 1) pa_nil)) (pg_name (i := 3) nd rfl (Or.inl rfl))
      (pss_one (ps_set (i := 2) nd rfl (Or.inl rfl) (pe_op op_mulW (pv 2) (pv 0)))))
    (pss_one (ps_ret (pv 2))))), fun as qs Φ Φe h hq => ?_⟩
    obtain ⟨b, e, rfl, hb, h0, h1, h⟩ := h
    obtain rfl : qs = [] := List.length_eq_zero_iff.mp hq
    walk_at "k"
    walk_at "ns"
    walk_at "n"
    refine sg_for (ig_range1 ?_)
    walk_at "zs"
    refine ⟨by omega, by omega, ?_⟩
    refine ⟨fun i Γ => ∃ s, i ≤ e.toNat ∧ Γ = [.dat (.int b), .dat (.int e), .dat (.int (b ^ i)), s], ⟨.no, Nat.zero_le _, by rw [Int.pow_zero]⟩, ?_, ?_⟩
    · rintro i d _ hd ⟨s, hi, rfl⟩
      obtain ⟨hlt, rfl⟩ := rng_get hd
      walk_at "zs"
      refine og_I (mulW_pow hb (by omega)) ?_
      walk_at "zs"
      exact ⟨_, by omega, by rw [Int.pow_succ]⟩
    · rintro _ ⟨s, hi, rfl⟩
      rw [rng_length]
      walk_at "r"
      exact ⟨_, h, rfl⟩
/-! ### gap_survival -/
abbrev st_gap_survival : Stmt := top 8
def isAmount : D → Bool
  | .int i => decide (0 ≤ i)
  | _ => false
def pr_gap_survival : Pr := fun as Φ Φe => ∃ d, as = [.dat d] ∧ d.plain = true ∧ (∀ a : Int, d = .int a → a < 2 ^ 200) ∧
  (∀ a : Int, d = .int a → 0 ≤ a → ∀ k : Nat, (2 : Int) ^ k - 1 ≤ a → a < 2 ^ (k + 1) - 1 → Φ (.dat (.int k)) []) ∧ (isAmount d = false → Φe (.bare "InvalidAmount") [])
theorem sc_gap_survival : FnScope ["amount", "found", "needed"] ["amount"] (defScope st_gap_survival) := ⟨rfl, rfl, rfl, by decide +kernel, rfl, by decide +kernel, by decide +kernel⟩
theorem ok_gap_survival {P : Program} {w : World} {K : PySem.W.Frag} {mg : Str → Option Value} {base : Heap} (T : Txt K mg) (F : FunOk K "gap_survival" st_gap_survival) (g : mg "gap_survival" = some (.ref (He.ga K "gap_survival"))) : DefOk P w K mg base 1 "gap_survival" ["amount"] pr_gap_survival := by
  obtain ⟨fd, F⟩ := F
  refine ⟨⟨fd, fn_z F sc_gap_survival (fun as Φ Φe h => ?_) (fun cdv A outer s H E hr => ?_), F.bindsN fun _ _ _ _ _ _ us hl => match us, hl with | [_], _ => rfl, F.kp⟩, g⟩
  · obtain ⟨d, rfl, hp, hb, h1, h2⟩ := h
    rfl
  · have nd := sc_gap_survival.nd
    refine ⟨_, (pss_cons (ps_if (PW.pt (pw_or (pt_not (pt_val (pe_callB call_isZ (by rfl) T.f_isinstance (by decide +kernel) (pa_cons (pv 0) (pa_cons (pe_ty T.f_int rfl rfl) pa_nil))))) (pw_or (pt_val (pe_callB call_isZ (by rfl) T.f_isinstance (by decide +kernel) (pa_cons (pv 0) (pa_cons (pe_ty T.f_bool rfl rfl) pa_nil)))) (pw_or1 (pt_cmpR op_lt (pv 0) pe_int (nomark _))))))
      (pss_one (px_raise T.x_InvalidAmount rfl (takes_of rfl rfl rfl rfl) rfl))
      pss_nil)
    (pss_cons (ps_set (i := 1) nd rfl (Or.inl rfl) pe_int)
    (pss_cons (ps_set (i := 2) nd rfl (Or.inl rfl) pe_int)
    (pss_cons (ps_while (passes_of rfl) (pt_cmpR op_le (pv 2) (pv 0) (nomark _))
      (pss_cons (ps_aug (i := 1) nd rfl (.inl rfl) pe_int ip_add)
      (pss_one (ps_set (i := 2) nd rfl (Or.inl rfl) (pe_op op_add (pe_op op_mul pe_int (pv 2)) pe_int)))))
    (pss_one (ps_ret (pv 1))))))), fun as qs Φ Φe h hq => ?_⟩
    obtain ⟨d, rfl, hp, hb, h1, h2⟩ := h
    obtain rfl : qs = [] := List.length_eq_zero_iff.mp hq
    walk_at "k"
    refine sg_seq (sg_ifB (!isAmount d) ?_ ?_ ?_)
    · walk_at "zs"
      refine ⟨fun q1 => ?_, fun q1 => ⟨?_, rfl⟩⟩
      · walk_at "zs"
        refine ⟨fun q2 => ?_, fun q2 => ⟨?_, rfl⟩⟩
        · have : ∃ i, d = .int i := by cases d <;> simp_all [D.isA]
          obtain ⟨i, rfl⟩ := this
          walk_at "zs"
          refine ⟨?_, rfl⟩
          exact (by rw [isAmount, Bool.eq_iff_iff]; simp)
        · cases d <;> simp_all [D.isA, isAmount]
      · cases d <;> simp_all [D.isA, isAmount]
    · intro q
      walk_at "z"
      exact ⟨_, h2 (by simpa using q), rfl⟩
    · intro q
      have : ∃ i, d = .int i ∧ 0 ≤ i := by
        cases d <;> simp_all [isAmount]
      obtain ⟨a, rfl, ha⟩ := this
      walk_at "zz"
      refine sg_while (fun m Γ => ∃ k : Nat, Γ = [.dat (.int a), .dat (.int k), .dat (.int (2 ^ (k + 1) - 1))] ∧ (2 : Int) ^ k - 1 ≤ a ∧ (m : Int) = a + 1 - 2 ^ k) (m0 := a.toNat) ⟨0, rfl, by simpa using ha, by simp; omega⟩ ?_
      rintro m Γ ⟨k, rfl, hk, hm⟩
      have p1 : (2 : Int) ^ (k + 1) = 2 * 2 ^ k := by rw [Int.pow_succ]; omega
      have p2 : (0 : Int) < 2 ^ k := Int.pow_pos (by decide)
      walk_at "zs"
      refine ⟨fun q => ?_, fun q => ?_⟩
      · walk_at "zz"
        have q := of_decide_eq_true q
        refine ⟨(a + 1 - 2 ^ (k + 1)).toNat, by omega, k + 1, ?_, by omega, by omega⟩
        have p3 : (2 : Int) ^ (k + 1 + 1) = 2 * 2 ^ (k + 1) := by rw [Int.pow_succ]; omega
        rw [p3]
        simp
        omega
      · walk_at "r"
        have q := of_decide_eq_false q
        exact ⟨_, h1 a rfl ha k hk (by omega), rfl⟩
/-! ### _law_refused -/
abbrev st__law_refused : Stmt := top 15
def pr__law_refused : Pr := fun as Φ Φe => ∃ d pd, as = [.dat d] ∧ d.plain = true ∧ isAmount d = false ∧ d.shows pd ∧ Φ (.dat (.bl true)) []
theorem sc__law_refused : FnScope ["_law_thing", "_law_caught", "_law_before", "e"] ["_law_thing"] (defScope st__law_refused) := ⟨rfl, rfl, rfl, by decide +kernel, rfl, by decide +kernel, by decide +kernel⟩
theorem ok__law_refused {P : Program} {w : World} {K : PySem.W.Frag} {mg : Str → Option Value} {base : Heap} (T : Txt K mg) (F : FunOk K "_law_refused" st__law_refused) (g : mg "_law_refused" = some (.ref (He.ga K "_law_refused"))) (D_gap_survival : DefOk P w K mg base 1 "gap_survival" ["amount"] pr_gap_survival) : DefOk P w K mg base 2 "_law_refused" ["_law_thing"] pr__law_refused := by
  obtain ⟨fd, F⟩ := F
  refine ⟨⟨fd, fn_z F sc__law_refused (fun as Φ Φe h => ?_) (fun cdv A outer s H E hr => ?_), F.bindsN fun _ _ _ _ _ _ us hl => match us, hl with | [_], _ => rfl, F.kp⟩, g⟩
  · obtain ⟨d, pd, rfl, hp, hn, hs, h⟩ := h
    rfl
  · have nd := sc__law_refused.nd
    refine ⟨_, (pss_cons (ps_set (i := 1) nd rfl (Or.inl rfl) pe_non)
    (pss_cons (ps_set (i := 2) nd rfl (Or.inl rfl) (pe_callB (call_repr hr) (by rfl) T.f_repr (by decide +kernel) (pa_cons (pv 0) pa_nil)))
    (pss_cons (ps_try_keep (i := 3) (j := 1) rfl rfl rfl nd rfl rfl rfl rfl rfl rfl ⟨rfl, by decide, .inl T.g_RankError⟩ (takes_of rfl rfl rfl rfl) (fun W_ pn_ xe_ tk_ ps_ => pss_cast (pss_one (ps_expr (pd_call D_gap_survival hr (by decide) rfl (lets_W tk_) (pa_cons (pv 0) pa_nil)))) (by dsimp only [Cx.tr, cxOf] <;> exact rfl)))
    (pss_cons (ps_if (PW.pt (pw_or (pt_val (pe_callB call_isZT (by rfl) T.f_isinstance (by decide +kernel) (pa_cons (pv 1) (pa_cons (pe_tup (pa_cons (pe_gc T.g_InvalidGap rfl) (pa_cons (pe_gc T.g_InvalidIndex rfl) (pa_cons (pe_gc T.g_InvalidNumber rfl) (pa_cons (pe_gc T.g_NoRoom rfl) pa_nil))))) pa_nil)))) (pw_or1 (pt_cmpR op_ne (pe_callB (call_repr hr) (by rfl) T.f_repr (by decide +kernel) (pa_cons (pv 0) pa_nil)) (pv 2) (nomark _)))))
      (pss_one (ps_ret pe_bl))
      pss_nil)
    (pss_one (ps_ret (pe_callB call_isZ (by rfl) T.f_isinstance (by decide +kernel) (pa_cons (pv 1) (pa_cons (pe_gc T.g_InvalidAmount rfl) pa_nil))))))))), fun as qs Φ Φe h hq => ?_⟩
    obtain ⟨d, pd, rfl, hp, hn, hs, h⟩ := h
    obtain rfl : qs = [] := List.length_eq_zero_iff.mp hq
    walk_at "k"
    walk_at "ns"
    walk_at "ns"
    refine cg_repr hs ?_
    walk_at "zs"
    walk_at "n"
    walk_at "keep"
    refine ⟨by decide, d, rfl, hp, ?_, ?_, fun _ => ?_⟩
    · rintro a rfl
      simp [isAmount] at hn
      omega
    · rintro a rfl h0
      simp [isAmount] at hn
      omega
    refine .inl ⟨_, rfl, .inl ⟨T.m_InvalidAmount_RankError, ?_⟩⟩
    try walk_at "k"
    walk_at "ns"
    refine cg_isT (.exc T.e_InvalidAmount) rfl (.cons (.own _) (.cons (.own _) (.cons (.own _) (.cons (.own _) .nil)))) (by unfold PySem.W.kitAny; rw [T.k_InvalidAmount_InvalidGap]; unfold PySem.W.kitAny; rw [T.k_InvalidAmount_InvalidIndex]; unfold PySem.W.kitAny; rw [T.k_InvalidAmount_InvalidNumber]; unfold PySem.W.kitAny; rw [T.k_InvalidAmount_NoRoom]; rfl) ?_
    walk_at "zs"
    refine ⟨fun _ => ?_, fun q => nomatch q⟩
    walk_at "zs"
    refine cg_repr hs ?_
    walk_at "zs"
    refine ⟨fun q => ?_, fun _ => ?_⟩
    · simp at q
    walk_at "zs"
    walk_at "r"
    refine cg_is (.exc T.e_InvalidAmount) (.own _) T.k_InvalidAmount_InvalidAmount ?_
    exact ⟨_, h, rfl⟩
/-! ### _law_survives -/
abbrev st__law_survives : Stmt := top 14
def pr__law_survives : Pr := fun as Φ Φe => ∃ a : Int, as = [.dat (.int a)] ∧ 0 ≤ a ∧ a < 2 ^ 200 ∧ (∀ k : Nat, (2 : Int) ^ k - 1 ≤ a → a < 2 ^ (k + 1) - 1 → Φ (.dat (.int k)) [])
theorem small_pow {k : Nat} {a : Int} (h : (2 : Int) ^ k - 1 ≤ a) (ha : a < 2 ^ 200) : k ≤ 200 := by
  refine Nat.le_of_not_lt fun q => ?_
  have h1 : (2 : Nat) ^ 201 ≤ 2 ^ k := Nat.pow_le_pow_right (by decide) q
  have h2 : ((2 ^ k : Nat) : Int) = 2 ^ k := by rw [Int.natCast_pow]; rfl
  omega
theorem sc__law_survives : FnScope ["_law_amount", "_law_found"] ["_law_amount"] (defScope st__law_survives) := ⟨rfl, rfl, rfl, by decide +kernel, rfl, by decide +kernel, by decide +kernel⟩
theorem ok__law_survives {P : Program} {w : World} {K : PySem.W.Frag} {mg : Str → Option Value} {base : Heap} (T : Txt K mg) (F : FunOk K "_law_survives" st__law_survives) (g : mg "_law_survives" = some (.ref (He.ga K "_law_survives"))) (D__law_power : DefOk P w K mg base 1 "_law_power" ["_law_base", "_law_exponent"] pr__law_power) : DefOk P w K mg base 2 "_law_survives" ["_law_amount"] pr__law_survives := by
  obtain ⟨fd, F⟩ := F
  refine ⟨⟨fd, fn_z F sc__law_survives (fun as Φ Φe h => ?_) (fun cdv A outer s H E hr => ?_), F.bindsN fun _ _ _ _ _ _ us hl => match us, hl with | [_], _ => rfl, F.kp⟩, g⟩
  · obtain ⟨a, rfl, ha, hb, h⟩ := h
    rfl
  · have nd := sc__law_survives.nd
    refine ⟨_, (pss_cons (ps_set (i := 1) nd rfl (Or.inl rfl) pe_int)
    (pss_cons (ps_while (passes_of rfl) (pt_cmpR op_le (pe_op op_sub (pd_call D__law_power hr (by decide) rfl lets_none (pa_cons pe_int (pa_cons (pe_op op_add (pv 1) pe_int) pa_nil))) pe_int) (pv 0) (nomark _))
      (pss_one (ps_set (i := 1) nd rfl (Or.inl rfl) (pe_op op_add (pv 1) pe_int))))
    (pss_one (ps_ret (pv 1))))), fun as qs Φ Φe h hq => ?_⟩
    obtain ⟨a, rfl, ha, hb, h⟩ := h
    obtain rfl : qs = [] := List.length_eq_zero_iff.mp hq
    walk_at "k"
    walk_at "ns"
    walk_at "n"
    refine sg_while (fun m Γ => ∃ k : Nat, Γ = [.dat (.int a), .dat (.int k)] ∧ (2 : Int) ^ k - 1 ≤ a ∧ (m : Int) = a + 1 - 2 ^ k) (m0 := a.toNat) ⟨0, rfl, by simpa using ha, by simp; omega⟩ ?_
    rintro m Γ ⟨k, rfl, hk, hm⟩
    have sm := small_pow hk hb
    have p1 : (2 : Int) ^ (k + 1) = 2 * 2 ^ k := by rw [Int.pow_succ]; omega
    have p2 : (0 : Int) < 2 ^ k := Int.pow_pos (by decide)
    walk_at "zs"
    refine ⟨by decide, 2, (k : Int) + 1, rfl, by decide, by omega, by omega, ?_⟩
    have e : ((k : Int) + 1).toNat = k + 1 := by omega
    rw [e]
    walk_at "zs"
    refine ⟨fun q => ?_, fun q => ?_⟩
    · walk_at "zs"
      have q := of_decide_eq_true q
      exact ⟨(a + 1 - 2 ^ (k + 1)).toNat, by omega, k + 1, rfl, by omega, by omega⟩
    · walk_at "r"
      have q := of_decide_eq_false q
      exact ⟨_, h k hk (by omega), rfl⟩
/-! ### law -/
abbrev st_law : Stmt := top 16
abbrev pr_law : Pr := prLaw
def OkA (d : D) : Prop := ∃ a : Int, d = .int a ∧ 0 ≤ a ∧ a < 2 ^ 200
theorem one_pow {a : Int} {k j : Nat} (h1 : (2 : Int) ^ k - 1 ≤ a) (h2 : a < 2 ^ (k + 1) - 1) (h3 : (2 : Int) ^ j - 1 ≤ a) (h4 : a < 2 ^ (j + 1) - 1) : k = j := by
  have mono : ∀ {x y : Nat}, x + 1 ≤ y → (2 : Int) ^ (x + 1) ≤ 2 ^ y := fun {x y} h => by
    have e : ((2 ^ (x + 1) : Nat) : Int) = 2 ^ (x + 1) := by rw [Int.natCast_pow]; rfl
    have e' : ((2 ^ y : Nat) : Int) = 2 ^ y := by rw [Int.natCast_pow]; rfl
    have := Nat.pow_le_pow_right (show 0 < 2 by decide) h
    omega
  rcases Nat.lt_trichotomy k j with h | h | h
  · have := mono h
    omega
  · exact h
  · have := mono h
    omega
theorem a_pow {a : Int} (h : 0 ≤ a) : ∃ k : Nat, (2 : Int) ^ k - 1 ≤ a ∧ a < 2 ^ (k + 1) - 1 := by
  refine ⟨(a + 1).toNat.log2, ?_⟩
  have h1 := Nat.log2_self_le (n := (a + 1).toNat) (by omega)
  have h2 := Nat.lt_log2_self (n := (a + 1).toNat)
  have e : ((2 ^ (a + 1).toNat.log2 : Nat) : Int) = 2 ^ (a + 1).toNat.log2 := by rw [Int.natCast_pow]; rfl
  have e' : ((2 ^ ((a + 1).toNat.log2 + 1) : Nat) : Int) = 2 ^ ((a + 1).toNat.log2 + 1) := by rw [Int.natCast_pow]; rfl
  omega
def odd : List D := [.non, .bl true, .bl false, .int (-1), .int (0 - 10 ^ 39), .str "3", .str "", .tup [], .tup [.int 3], .lst [], .lst [.int 3], .dct [] [], .dct [.inl 3] [.int 3], .str "x"]
theorem odd_ok : odd.all (fun d => d.plain && !isAmount d && d.showsB) = true := by decide +kernel
theorem sc_law : FnScope ["_law_script", "_law_pen_here", "_law_amounts", "_law_turn", "_law_large", "_law_amount", "_law_found", "_law_thing"] ["_law_script"] (defScope st_law) := ⟨rfl, rfl, rfl, by decide +kernel, rfl, by decide +kernel, by decide +kernel⟩
theorem ok_law {P : Program} {w : World} {K : PySem.W.Frag} {mg : Str → Option Value} {base : Heap} {fd : FuncData} (T : Txt K mg) (F : FunD K "law" "law" (defArgs st_law) (defBody st_law) (defScope st_law) [] [] (He.ga K "law") fd) (D__law_draw : DefOk P w K mg base 2 "_law_draw" ["_law_pen_here", "_law_below"] pr__law_draw) (D__law_pen : DefOk P w K mg base 1 "_law_pen" ["_law_script"] pr__law_pen) (D__law_power : DefOk P w K mg base 1 "_law_power" ["_law_base", "_law_exponent"] pr__law_power) (D__law_refused : DefOk P w K mg base 2 "_law_refused" ["_law_thing"] pr__law_refused) (D__law_survives : DefOk P w K mg base 2 "_law_survives" ["_law_amount"] pr__law_survives) (D_gap_survival : DefOk P w K mg base 1 "gap_survival" ["amount"] pr_gap_survival) : FnG P w K mg base 3 (He.ga K "law") fd ["_law_script"] (spZ K prLaw) := by
  refine fn_z F sc_law (fun as Φ Φe h => ?_) (fun cdv A outer s H E hr => ?_)
  · obtain ⟨ns, rfl, hl, h⟩ := h
    rfl
  · have nd := sc_law.nd
    refine ⟨_, (pss_cons (ps_set (i := 1) nd rfl (Or.inl rfl) (pd_call D__law_pen hr (by decide) rfl lets_none (pa_cons (pv 0) pa_nil)))
    (pss_cons (ps_set (i := 2) nd rfl (Or.inl rfl) (pe_op op_cat (pe_listRg rfl rfl T.f_list (prg_1 rfl T.f_range pe_int)) (pe_lst (pa_cons (pd_call D__law_draw hr (by decide) rfl lets_none (pa_cons (pv 1) (pa_cons (pe_op op_pow pe_int pe_int) pa_nil))) (pa_cons (pd_call D__law_draw hr (by decide) rfl lets_none (pa_cons (pv 1) (pa_cons (pe_op op_pow pe_int pe_int) pa_nil))) (pa_cons (pe_op op_pow pe_int pe_int) pa_nil))))))
    (pss_cons (ps_for (passes_of rfl) rfl (pi_range1 (by rfl) T.f_range (pa_cons pe_int pa_nil)) (pg_name (i := 3) nd rfl (Or.inl rfl))
      (pss_cons (ps_set (i := 4) nd rfl (Or.inl rfl) (pd_call D__law_power hr (by decide) rfl lets_none (pa_cons pe_int (pa_cons (pe_op op_add pe_int (pd_call D__law_draw hr (by decide) rfl lets_none (pa_cons (pv 1) (pa_cons pe_int pa_nil)))) pa_nil))))
      (pss_one (ps_set (i := 2) nd rfl (Or.inl rfl) (pe_op op_cat (pv 2) (pe_lst (pa_cons (pe_op op_sub (pv 4) pe_int) (pa_cons (pe_op op_sub (pv 4) pe_int) (pa_cons (pv 4) pa_nil)))))))))
    (pss_cons (ps_for (passes_of rfl) rfl (pi_list (pv 2)) (pg_name (i := 5) nd rfl (Or.inl rfl))
      (pss_cons (ps_set (i := 6) nd rfl (Or.inl rfl) (pd_call D_gap_survival hr (by decide) rfl (lets_W (takes_of rfl rfl rfl rfl)) (pa_cons (pv 5) pa_nil)))
      (pss_one (ps_if (PW.pt (pw_or (pt_val (pe_callB call_isZ (by rfl) T.f_isinstance (by decide +kernel) (pa_cons (pv 6) (pa_cons (pe_ty T.f_bool rfl rfl) pa_nil)))) (pw_or1 (pt_cmpR op_ne (pv 6) (pd_call D__law_survives hr (by decide) rfl lets_none (pa_cons (pv 5) pa_nil)) (nomark _)))))
        (pss_one (ps_ret pe_bl))
        pss_nil))))
    (pss_cons (ps_for (passes_of rfl) rfl (pi_list (pe_lst (pa_cons pe_non (pa_cons pe_bl (pa_cons pe_bl (pa_cons (pe_un un_neg pe_int) (pa_cons (pe_op op_sub pe_int (pe_op op_pow pe_int pe_int)) (pa_cons pe_str (pa_cons pe_str (pa_cons (pe_tup pa_nil) (pa_cons (pe_tup (pa_cons pe_int pa_nil)) (pa_cons (pe_lst pa_nil) (pa_cons (pe_lst (pa_cons pe_int pa_nil)) (pa_cons pe_dnewK (pa_cons (pe_disp (pps_cons pe_int pe_int pps_nil) (by rfl) (by rfl) (fun z => by cases z) (by decide)) (pa_cons pe_str pa_nil)))))))))))))))) (pg_name (i := 7) nd rfl (Or.inl rfl))
      (pss_one (ps_if (pt_not (pt_val (pd_call D__law_refused hr (by decide) rfl lets_none (pa_cons (pv 7) pa_nil))))
        (pss_one (ps_ret pe_bl))
        pss_nil)))
    (pss_one (ps_ret pe_bl))))))), fun as qs Φ Φe h hq => ?_⟩
    obtain ⟨ns, rfl, hl, h⟩ := h
    obtain rfl : qs = [] := List.length_eq_zero_iff.mp hq
    walk_at "k"
    walk_at "n"
    refine sg_asgo (Nat.le_of_ble_eq_true rfl) ?_
    walk_at "zs"
    refine ⟨by decide, ns, rfl, fun p => ?_⟩
    walk_at "k"
    walk_at "ns"
    refine ⟨by decide, by decide, ?_⟩
    walk_at "zs"
    refine ⟨⟨_, rfl⟩, by decide, 0, 10 ^ 12, rfl, by decide, by decide, by decide, fun j1 a1 b1 => ?_⟩
    walk_at "k"
    walk_at "zs"
    refine ⟨⟨_, rfl⟩, by decide, 1, 10 ^ 30, rfl, by decide, by decide, by decide, fun j2 a2 b2 => ?_⟩
    walk_at "k"
    walk_at "zs"
    refine ⟨_, _, rfl, rfl, (by rw [rng_length]; exact Nat.le_of_ble_eq_true rfl), ?_⟩
    walk_at "zs"
    have ok0 : ∀ d ∈ rng 0 71 ++ [D.int j1, D.int j2, D.int (10 ^ 39)], OkA d := by
      intro d hd
      rcases List.mem_append.mp hd with q | q
      · obtain ⟨i, hi⟩ := List.getElem?_of_mem q
        obtain ⟨h1, rfl⟩ := rng_get hi
        exact ⟨_, rfl, by omega, by omega⟩
      · simp only [List.mem_cons, List.not_mem_nil, or_false] at q
        rcases q with rfl | rfl | rfl
        · exact ⟨_, rfl, by omega, by omega⟩
        · exact ⟨_, rfl, by omega, by omega⟩
        · exact ⟨_, rfl, by omega, by omega⟩
    have len0 : (rng 0 71 ++ [D.int j1, D.int j2, D.int (10 ^ 39)]).length ≤ 100 := by
      rw [List.length_append, rng_length]
      exact Nat.le_of_ble_eq_true rfl
    generalize rng 0 71 ++ [D.int j1, D.int j2, D.int (10 ^ 39)] = ds0 at ok0 len0
    walk_at "n"
    refine sg_for (ig_range1 ?_)
    walk_at "zs"
    refine ⟨by decide, by decide, fun i Γ => ∃ ds s3 s4, Γ = [.dat (.fro (ns.map D.int)), .own true p (.pen (2 + i)), .dat (.lst ds), s3, s4, .no, .no, .no] ∧ i ≤ 4 ∧ ds.length ≤ 100 + 3 * i ∧ ∀ d ∈ ds, OkA d, ⟨ds0, .no, .no, rfl, by decide, by omega, ok0⟩, ?_, ?_⟩
    · rintro i d _ hd ⟨ds, s3, s4, rfl, hi, hn, ok⟩
      obtain ⟨hlt, rfl⟩ := rng_get hd
      have hlt : i < 4 := hlt
      walk_at "zs"
      walk_at "n"
      walk_at "zs"
      refine ⟨⟨_, rfl⟩, by decide, 2 + i, 100, rfl, by omega, by decide, by decide, fun j a b => ?_⟩
      walk_at "k"
      walk_at "zs"
      refine ⟨by decide, 2, 6 + j, rfl, by decide, by omega, by omega, ?_⟩
      have lo : (2 : Int) ≤ 2 ^ (6 + j).toNat := by
        have e : ((2 ^ (6 + j).toNat : Nat) : Int) = 2 ^ (6 + j).toNat := by rw [Int.natCast_pow]; rfl
        have := Nat.pow_le_pow_right (show 0 < 2 by decide) (show 1 ≤ (6 + j).toNat by omega)
        omega
      have up : (2 : Int) ^ (6 + j).toNat < 2 ^ 200 := by
        have e : ((2 ^ (6 + j).toNat : Nat) : Int) = 2 ^ (6 + j).toNat := by rw [Int.natCast_pow]; rfl
        have := Nat.pow_lt_pow_right (show 1 < 2 by decide) (show (6 + j).toNat < 200 by omega)
        omega
      generalize (2 : Int) ^ (6 + j).toNat = L at lo up
      walk_at "k"
      walk_at "zs"
      refine ⟨_, _, rfl, rfl, by simp only [List.length_cons, List.length_nil]; omega, ?_⟩
      walk_at "zs"
      refine ⟨_, _, _, rfl, by omega, by simp only [List.length_append, List.length_cons, List.length_nil]; omega, fun d hd => ?_⟩
      rcases List.mem_append.mp hd with q | q
      · exact ok d q
      · simp only [List.mem_cons, List.not_mem_nil, or_false] at q
        rcases q with rfl | rfl | rfl
        · exact ⟨_, rfl, by omega, by omega⟩
        · exact ⟨_, rfl, by omega, by omega⟩
        · exact ⟨_, rfl, by omega, by omega⟩
    · rintro _ ⟨ds, s3, s4, rfl, hi, hn, ok⟩
      walk_at "n"
      refine sg_for (ig_list ?_)
      walk_at "zs"
      refine ⟨ds, .inl rfl, fun i Γ => ∃ s5 s6 s7, Γ = [.dat (.fro (ns.map D.int)), .own true p (.pen (2 + (rng 0 4).length)), .dat (.lst ds), s3, s4, s5, s6, s7], ⟨.no, .no, .no, rfl⟩, ?_, ?_⟩
      · rintro i d _ hd ⟨s5, s6, s7, rfl⟩
        obtain ⟨a, rfl, ha, hb⟩ := ok d (List.mem_of_getElem? hd)
        walk_at "zs"
        walk_at "n"
        walk_at "zs"
        refine ⟨by decide, _, rfl, rfl, fun _ e => by cases e; exact hb, ?_, fun q => by simp [isAmount] at q; omega⟩
        intro _ e _ k k1 k2
        cases e
        walk_at "k"
        walk_at "zs"
        refine ⟨fun _ => ?_, fun q => nomatch q⟩
        walk_at "zs"
        refine ⟨by decide, a, rfl, ha, hb, fun k' k3 k4 => ?_⟩
        have := one_pow k1 k2 k3 k4
        subst this
        walk_at "k"
        walk_at "zs"
        refine ⟨fun q => by simp at q, fun _ => ?_⟩
        walk_at "zs"
        exact ⟨_, _, _, rfl⟩
      · rintro _ ⟨s5, s6, s7, rfl⟩
        walk_at "n"
        refine sg_for (ig_list ?_)
        walk_at "zs"
        refine ⟨odd, .inl rfl, fun i Γ => ∃ s5 s6 s7, Γ = [.dat (.fro (ns.map D.int)), .own true p (.pen (2 + (rng 0 4).length)), .dat (.lst ds), s3, s4, s5, s6, s7], ⟨_, _, _, rfl⟩, ?_, ?_⟩
        · rintro i d _ hd ⟨s5, s6, s7, rfl⟩
          have okd := List.all_eq_true.mp odd_ok d (List.mem_of_getElem? hd)
          obtain ⟨q1, q3⟩ := He.ba okd
          obtain ⟨q1, q2⟩ := He.ba q1
          obtain ⟨pd, q3⟩ := shows_of q3
          walk_at "zs"
          refine ⟨by decide, d, pd, rfl, q1, by simpa using q2, q3, ?_⟩
          walk_at "k"
          walk_at "zs"
          refine ⟨fun q => (nomatch q), fun _ => ?_⟩
          walk_at "zs"
          exact ⟨_, _, _, rfl⟩
        · rintro _ ⟨s5, s6, s7, rfl⟩
          walk_at "r"
          exact ⟨_, h, rfl⟩
open PySem.Spec PyProof.Rows
abbrev Rw : PySem.W.OpenLaw := PySem.Challenge.rw_rankkeys_k44_survival_of_gaps
abbrev dd (x : Str) (i : Nat) : He.DefD := ⟨(x, none), x, x, defArgs (top i), defBody (top i), defScope (top i), [], []⟩
def fn : List He.DefD := [dd "_law_next" 11, dd "_law_draw" 12, dd "_law_pen" 10, dd "_law_power" 13, dd "gap_survival" 8, dd "_law_refused" 15, dd "_law_survives" 14, dd "law" 16]
def faL : List He.Fa := [.glo "_law_next", .glo "_law_draw", .glo "_law_pen", .glo "_law_power", .glo "gap_survival", .glo "_law_refused", .glo "_law_survives", .glo "law", .free "len", .free "list", .free "range", .glo "InvalidAmount", .exc "InvalidAmount", .free "isinstance", .free "bool", .free "int", .glo "InvalidIndex", .glo "NoRoom", .free "repr", .glo "InvalidNumber", .glo "RankError", .glo "InvalidGap", .exm "InvalidAmount" "RankError" true]
def xl : List (PySem.W.Frag → Bool) := [excB "InvalidAmount", kitF "InvalidAmount" (clsOf "InvalidGap") false, kitF "InvalidAmount" (clsOf "InvalidIndex") false, kitF "InvalidAmount" (clsOf "InvalidNumber") false, kitF "InvalidAmount" (clsOf "NoRoom") false, kitF "InvalidAmount" (clsOf "InvalidAmount") true]
def fb (K : PySem.W.Frag) : Bool := faL.all (fun x => x.ok K) && xl.all (fun g => g K)
theorem xc_of {K : PySem.W.Frag} {mg : Str → Option Value} {x : Str} (g : mg x = some (.ref (He.ga K x))) (h : PySem.W.excIn K (He.ga K x) He.veBase "ValueError.__new__" = true ∧ PySem.W.keepIn K (.ref (He.ga K x)) = true ∧ PySem.W.subIn K (.ref (He.ga K x)) (.type "BaseException") = some true ∧ PySem.W.typeIn K (.ref (He.ga K x)) = some (.type "type")) : Xc K mg x := ⟨g, h.1, h.2.1, h.2.2.1, h.2.2.2⟩
theorem txt_of {K : PySem.W.Frag} {h : Heap} {mg : Str → Option Value} (X : K.In h) (G : h.Ns mainGlobals mg) (c : fb K = true) : Txt K mg ∧ ∀ (i : Nat) (x : He.Fa), faL[i]? = some x → x.ok K = true := by
  obtain ⟨c1, c2⟩ := He.ba c
  have a : ∀ (i : Nat) (x : He.Fa), faL[i]? = some x → x.ok K = true := fun i x e => List.all_eq_true.mp c1 x (List.mem_of_getElem? e)
  have b : ∀ (i : Nat) (g : PySem.W.Frag → Bool), xl[i]? = some g → g K = true := fun i g e => List.all_eq_true.mp c2 g (List.mem_of_getElem? e)
  exact ⟨⟨He.free_ok X G (a 14 (.free "bool") rfl),
    He.free_ok X G (a 15 (.free "int") rfl),
    He.free_ok X G (a 13 (.free "isinstance") rfl),
    He.free_ok X G (a 8 (.free "len") rfl),
    He.free_ok X G (a 9 (.free "list") rfl),
    He.free_ok X G (a 10 (.free "range") rfl),
    He.free_ok X G (a 18 (.free "repr") rfl),
    xc_of (He.glo_ok X G (a 11 (.glo "InvalidAmount") rfl)) (He.exc_ok (a 12 (.exc "InvalidAmount") rfl)),
    He.glo_ok X G (a 11 (.glo "InvalidAmount") rfl),
    He.glo_ok X G (a 21 (.glo "InvalidGap") rfl),
    He.glo_ok X G (a 16 (.glo "InvalidIndex") rfl),
    He.glo_ok X G (a 19 (.glo "InvalidNumber") rfl),
    He.glo_ok X G (a 17 (.glo "NoRoom") rfl),
    He.glo_ok X G (a 20 (.glo "RankError") rfl),
    excB_ok (b 0 (excB "InvalidAmount") rfl) (He.exc_ok (a 12 (.exc "InvalidAmount") rfl)).2.2.1,
    of_decide_eq_true (b 5 (kitF "InvalidAmount" (clsOf "InvalidAmount") true) rfl),
    of_decide_eq_true (b 1 (kitF "InvalidAmount" (clsOf "InvalidGap") false) rfl),
    of_decide_eq_true (b 2 (kitF "InvalidAmount" (clsOf "InvalidIndex") false) rfl),
    of_decide_eq_true (b 3 (kitF "InvalidAmount" (clsOf "InvalidNumber") false) rfl),
    of_decide_eq_true (b 4 (kitF "InvalidAmount" (clsOf "NoRoom") false) rfl),
    He.exm_ok (a 22 (.exm "InvalidAmount" "RankError" true) rfl)⟩, a⟩
abbrev R : PySem.W.OpenRow := PySem.W.OpenLaw.row Rw
abbrev hk : PySem.W.Hook := hookZ 6 fb fn
def ob (s : PySem.W.SharedT) : Bool × He.AlD := obsZG 6 fb fn (HandSHeadRun.getT s)
theorem ob_eq (s : PySem.W.SharedT) : ob s = hk.obs s.abs := obsZG_eq (HandSHeadRun.getT_eq s)
theorem run (w : World) : HandSHeadRun.RunEq R (PySem.W.view R.prog [16]) hk ob 6000 ["RankError", "InvalidNumber", "InvalidGap", "InvalidIndex", "InvalidAmount", "NoRoom", "gap_survival", "_law_pen", "_law_next", "_law_draw", "_law_power", "_law_survives", "_law_refused"] w := by
  intro os
  kernel_rfl
end T
open PySem PySem.W PySem.Calls PyProof.Rows
theorem PySem.Challenge.cw_rankkeys_k44_survival_of_gaps_holds : PySem.Challenge.rw_rankkeys_k44_survival_of_gaps.Holds := by
  w_on; o_law
  refine HandSHeadRun.head_any (r := T.R) (q := view T.R.prog [16]) (H := T.hk) (ob := T.ob) (M := 6000) (loose := ["RankError", "InvalidNumber", "InvalidGap", "InvalidIndex", "InvalidAmount", "NoRoom", "gap_survival", "_law_pen", "_law_next", "_law_draw", "_law_power", "_law_survives", "_law_refused"]) (d := HandSHeadRun.topDef T.R.prog 16) (kwd := []) T.ob_eq
    (by kernel_rfl) (fun s => by kernel_rfl) T.run (by kernel_rfl) (by kernel_rfl) (by kernel_rfl) (by rfl) (by first | assumption | decide +kernel) (by decide +kernel) ⟨rfl, rfl, rfl, rfl, rfl, by decide +kernel⟩ ?hw ?hc
  case hw => w_witness2
  case hc =>
    refine Z.walkG (l := T.Rw) (k := 3) (x := "_law_script") rfl (by kernel_rfl) ⟨⟨rfl, by decide, by decide⟩, rfl⟩ ?F
    intro w mg fa h Y G hmg0
    obtain ⟨K, KX, c, aw, o1, e1, e2⟩ := Y
    obtain ⟨tx, a⟩ := T.txt_of KX G c.facts
    have hmg : mg ("law" : PySem.Str) = some (.ref fa) := by
      have e : (HandSHeadRun.topDef T.R.prog 16).name = ("law" : PySem.Str) := by kernel_rfl
      rw [← e]
      exact hmg0
    have e := hmg.symm.trans (He.glo_ok KX G (a 7 (.glo "law") rfl))
    cases e
    obtain ⟨fd, F⟩ := c.def_ 7 rfl
    refine ⟨K, fd, KX, aw, ⟨o1, e1, e2⟩, fun s v => (L2.FunD.bindsA (ps := ["_law_script"]) F fun _ _ _ _ _ _ us hl => match us, hl with | [_], _ => rfl) s [v] rfl, fun base _ _ => ?_⟩
    have D__law_next := T.ok__law_next (P := T.Rw.prog) (w := w) (base := base) tx (c.def_ 0 rfl) (He.glo_ok KX G (a 0 (.glo "_law_next") rfl))
    have D__law_draw := T.ok__law_draw (P := T.Rw.prog) (w := w) (base := base) tx (c.def_ 1 rfl) (He.glo_ok KX G (a 1 (.glo "_law_draw") rfl)) D__law_next
    have D__law_pen := T.ok__law_pen (P := T.Rw.prog) (w := w) (base := base) tx (c.def_ 2 rfl) (He.glo_ok KX G (a 2 (.glo "_law_pen") rfl))
    have D__law_power := T.ok__law_power (P := T.Rw.prog) (w := w) (base := base) tx (c.def_ 3 rfl) (He.glo_ok KX G (a 3 (.glo "_law_power") rfl))
    have D_gap_survival := T.ok_gap_survival (P := T.Rw.prog) (w := w) (base := base) tx (c.def_ 4 rfl) (He.glo_ok KX G (a 4 (.glo "gap_survival") rfl))
    have D__law_refused := T.ok__law_refused (P := T.Rw.prog) (w := w) (base := base) tx (c.def_ 5 rfl) (He.glo_ok KX G (a 5 (.glo "_law_refused") rfl)) D_gap_survival
    have D__law_survives := T.ok__law_survives (P := T.Rw.prog) (w := w) (base := base) tx (c.def_ 6 rfl) (He.glo_ok KX G (a 6 (.glo "_law_survives") rfl)) D__law_power
    exact T.ok_law tx F D__law_draw D__law_pen D__law_power D__law_refused D__law_survives D_gap_survival
