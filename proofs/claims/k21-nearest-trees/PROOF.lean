import PyProof.Rows.All
import Wide.All
import OpenK.AllK
import Wide.FinOn
import HandS.ForMost
import HandS.Exc
import HandS.WordsExc
import HandS.Defaults
import HandS.DictComp
import HandS.IsInst
import HandS.Zip
import HandS.SetKeys
import HandS.TupAny
import HandS.Deep
import HandS.Style
import HandS.SortInts
import HandS.TupSets
import HandS.ExcInit
import HandS.TryMany
import HandS.Lambda
import HandS.CallLocal
import HandS.HeadHook4
import HandS.Evl
import KE.SortData
import HandS.Conv
import KE.DataMinMax
import PyProof.P3Eq
import HandS.ExcField
import HandS.Head0
import HandS.Head1
import HandS.Head2
import HandS.HeadEnd
import HandS.HeadHook1
import HandS.HeadHook2
import HandS.HeadHook3
import HandS.HeadWalk
import KE.KStateDown
import PySem.Challenge.RW_foldervotes_k21_whole_nearest_trees_by_a
set_option Elab.async false
set_option linter.all false
set_option maxRecDepth 100000
set_option maxHeartbeats 2000000
/-! The data layer, part A: data, how a heap bears them, states, steps. -/
namespace FV
open PySem PySem.Spec PyProof.Rows L2

inductive D where
  | non | bl (b : Bool) | int (i : Int) | str (x : Str)
  | tup (xs : List D) | lst (xs : List D) | dic (ks : List Int) (ds : List D) | obj (c : Nat) (fs : List Str) (ds : List D)

/-- a dict's entries -/
def kvs (ks : List Int) (vs : List V) : List (Key × V) := (ks.map (Sum.inl : Int → Key)).zip vs

mutual
def R (cl : Nat → Addr) (H : Hp) : D → V → Prop
  | .non, v => v = .non
  | .bl b, v => v = .bl b
  | .int i, v => v = .int i
  | .str x, v => v = .str x
  | .tup xs, v => ∃ a vs, v = .ref a ∧ H a = some (.tup vs) ∧ Rs cl H xs vs
  | .lst xs, v => ∃ a vs, v = .ref a ∧ H a = some (.lst vs) ∧ Rs cl H xs vs
  | .dic ks ds, v => ∃ a vs, v = .ref a ∧ H a = some (.dK (kvs ks vs)) ∧ ks.length = ds.length ∧ ks.Nodup ∧ Rs cl H ds vs
  | .obj c fs ds, v => ∃ a dx vs, v = .ref a ∧ H a = some (.ins (cl c) dx (fs.zip vs)) ∧ fs.length = ds.length ∧ Rs cl H ds vs
def Rs (cl : Nat → Addr) (H : Hp) : List D → List V → Prop
  | [], vs => vs = []
  | x :: xs, vs => ∃ v r, vs = v :: r ∧ R cl H x v ∧ Rs cl H xs r
end

/-- what is written stays: the kit's own word -/
abbrev Ex (H H' : Hp) : Prop := Evl.Ex H H'
theorem Ex.refl (H : Hp) : Ex H H := Evl.Ex.refl H
theorem Ex.trans {a b c : Hp} (h : Ex a b) (k : Ex b c) : Ex a c := Evl.Ex.trans h k
theorem Ex.new {H : Hp} {a : Addr} {o : HO} (n : H a = none) : Ex H (upd H a o) := Evl.Ex.new n

mutual
theorem R.mono {cl : Nat → Addr} {H H' : Hp} (e : Ex H H') : ∀ {d : D} {v : V}, R cl H d v → R cl H' d v
  | .non, _, h => h
  | .bl _, _, h => h
  | .int _, _, h => h
  | .str _, _, h => h
  | .tup _, _, ⟨a, vs, h1, h2, h3⟩ => ⟨a, vs, h1, e _ _ h2, Rs.mono e h3⟩
  | .lst _, _, ⟨a, vs, h1, h2, h3⟩ => ⟨a, vs, h1, e _ _ h2, Rs.mono e h3⟩
  | .dic _ _, _, ⟨a, vs, h1, h2, h4, h5, h3⟩ => ⟨a, vs, h1, e _ _ h2, h4, h5, Rs.mono e h3⟩
  | .obj _ _ _, _, ⟨a, dx, vs, h1, h2, h4, h3⟩ => ⟨a, dx, vs, h1, e _ _ h2, h4, Rs.mono e h3⟩
theorem Rs.mono {cl : Nat → Addr} {H H' : Hp} (e : Ex H H') : ∀ {ds : List D} {vs : List V}, Rs cl H ds vs → Rs cl H' ds vs
  | [], _, h => h
  | _ :: _, _, ⟨v, r, h1, h2, h3⟩ => ⟨v, r, h1, R.mono e h2, Rs.mono e h3⟩
end
section
variable {cl : Nat → Addr} {H H' : Hp} {ds es : List D} {vs us : List V} {d : D} {v : V}
theorem Rs.length : ∀ {ds : List D} {vs : List V}, Rs cl H ds vs → vs.length = ds.length
  | [], _, h => by
    obtain rfl : _ = [] := h
    rfl
  | _ :: _, _, ⟨v, r, h1, _, h3⟩ => by
    rw [h1, List.length_cons, List.length_cons, Rs.length h3]
theorem Rs.nil : Rs cl H [] [] := rfl
theorem Rs.cons (h : R cl H d v) (t : Rs cl H ds vs) : Rs cl H (d :: ds) (v :: vs) := ⟨v, vs, rfl, h, t⟩
theorem Rs.one (h : R cl H d v) : Rs cl H [d] [v] := .cons h .nil
theorem Rs.append : ∀ {ds : List D} {vs : List V}, Rs cl H ds vs → Rs cl H es us → Rs cl H (ds ++ es) (vs ++ us)
  | [], _, h, t => by
    obtain rfl : _ = [] := h
    exact t
  | _ :: _, _, ⟨v, r, h1, h2, h3⟩, t => by
    subst h1
    exact .cons h2 (Rs.append h3 t)
theorem Rs.get : ∀ {ds : List D} {vs : List V} {i : Nat}, Rs cl H ds vs → ds[i]? = some d → ∃ v, vs[i]? = some v ∧ R cl H d v
  | [], _, _, _, e => by simp at e
  | x :: _, _, 0, ⟨v, r, h1, h2, _⟩, e => by
    subst h1
    have e' : x = d := by simpa using e
    exact ⟨v, rfl, e' ▸ h2⟩
  | _ :: _, _, i + 1, ⟨v, r, h1, _, h3⟩, e => by
    subst h1
    obtain ⟨w, e1, e2⟩ := Rs.get (i := i) h3 (by simpa using e)
    exact ⟨w, by simpa using e1, e2⟩
theorem Rs.back : ∀ {ds : List D} {vs : List V} {i : Nat}, Rs cl H ds vs → vs[i]? = some v → ∃ d, ds[i]? = some d ∧ R cl H d v := fun {ds vs i} h e => by
  have hl : i < ds.length := by
    rw [← h.length]
    exact (List.getElem?_eq_some_iff.mp e).1
  obtain ⟨w, e1, e2⟩ := h.get (List.getElem?_eq_getElem hl)
  rw [e] at e1
  cases e1
  exact ⟨_, List.getElem?_eq_getElem hl, e2⟩
theorem Rs.take : ∀ {ds : List D} {vs : List V} (n : Nat), Rs cl H ds vs → Rs cl H (ds.take n) (vs.take n)
  | _, _, 0, _ => by simpa using Rs.nil
  | [], _, n + 1, h => by
    obtain rfl : _ = [] := h
    exact .nil
  | _ :: _, _, n + 1, ⟨v, r, h1, h2, h3⟩ => by
    subst h1
    exact .cons h2 (Rs.take n h3)
theorem Rs.drop : ∀ {ds : List D} {vs : List V} (n : Nat), Rs cl H ds vs → Rs cl H (ds.drop n) (vs.drop n)
  | _, _, 0, h => h
  | [], _, n + 1, h => by
    obtain rfl : _ = [] := h
    exact .nil
  | _ :: _, _, n + 1, ⟨v, r, h1, _, h3⟩ => by
    subst h1
    exact Rs.drop n h3
theorem Rs.reverse : ∀ {ds : List D} {vs : List V}, Rs cl H ds vs → Rs cl H ds.reverse vs.reverse
  | [], _, h => by
    obtain rfl : _ = [] := h
    exact .nil
  | _ :: _, _, ⟨v, r, h1, h2, h3⟩ => by
    subst h1
    rw [List.reverse_cons, List.reverse_cons]
    exact Rs.append (Rs.reverse h3) (.one h2)
theorem Rs.set : ∀ {ds : List D} {vs : List V} (n : Nat), Rs cl H ds vs → R cl H d v → Rs cl H (ds.set n d) (vs.set n v)
  | [], _, _, h, _ => by
    obtain rfl : _ = [] := h
    exact .nil
  | _ :: _, _, 0, ⟨w, r, h1, h2, h3⟩, q => by
    subst h1
    exact .cons q h3
  | _ :: _, _, n + 1, ⟨w, r, h1, h2, h3⟩, q => by
    subst h1
    exact .cons h2 (Rs.set n h3 q)
theorem Rs.eraseIdx : ∀ {ds : List D} {vs : List V} (n : Nat), Rs cl H ds vs → Rs cl H (ds.eraseIdx n) (vs.eraseIdx n)
  | [], _, _, h => by
    obtain rfl : _ = [] := h
    exact .nil
  | _ :: _, _, 0, ⟨w, r, h1, h2, h3⟩ => by
    subst h1
    exact h3
  | _ :: _, _, n + 1, ⟨w, r, h1, h2, h3⟩ => by
    subst h1
    exact .cons h2 (Rs.eraseIdx n h3)
theorem Rs.ints : ∀ (ns : List Int), Rs cl H (ns.map D.int) (ns.map V.int)
  | [] => .nil
  | n :: r => .cons (show R cl H (.int n) (.int n) from rfl) (Rs.ints r)
theorem Rs.ints_of : ∀ {ns : List Int} {vs : List V}, Rs cl H (ns.map D.int) vs → vs = ns.map V.int
  | [], _, h => h
  | n :: r, _, ⟨v, t, h1, h2, h3⟩ => by
    obtain rfl : v = .int n := h2
    rw [h1, Rs.ints_of h3]
    rfl
theorem Rs.bls_of : ∀ {ns : List Bool} {vs : List V}, Rs cl H (ns.map D.bl) vs → vs = ns.map V.bl
  | [], _, h => h
  | n :: r, _, ⟨v, t, h1, h2, h3⟩ => by
    obtain rfl : v = .bl n := h2
    rw [h1, Rs.bls_of h3]
    rfl
end

/-! ### what a slot holds, what is owned -/
inductive Sl where
  | u | d (x : D) | o (n : Nat)
inductive Ow where
  | gone | lst (xs : List D) | dic (ks : List Int) (ds : List D) | ins (c : Nat) (fs : List Str) (ds : List D) | tape | tb (P : Addr) (q : Str)
/-- a list, a dict, an instance -/
def plO : Ow → Bool
  | .lst _ => true
  | .dic _ _ => true
  | .ins _ _ _ => true
  | _ => false

/-- the state: the shared part, the heap, the owned objects' addresses -/
structure Sta where
  H0 : Hp
  H : Hp
  ps : List (Option Addr)

/-- shared things stand in the heap, a dict perhaps locked -/
def Lk (H0 H : Hp) : Prop := ∀ a o, H0 a = some o → H a = some o ∨ ((∃ q, o = .dK q) ∧ ∃ ob, H a = some (.frz ob o))
theorem Lk.rd {H0 H : Hp} (l : Lk H0 H) {a : Addr} {o : HO} (h : H0 a = some o) : Rd H a o := by
  rcases l a o h with h | ⟨_, ob, h⟩
  · exact .inl h
  · exact .inr ⟨ob, h⟩
theorem Lk.pl {H0 H : Hp} (l : Lk H0 H) {a : Addr} {o : HO} (h : H0 a = some o) (n : ∀ q, o ≠ .dK q) : H a = some o := by
  rcases l a o h with h | ⟨⟨q, e⟩, _⟩
  · exact h
  · exact absurd e (n q)

/-- the law's tape: the script's list and four ints -/
def TapeAt (K : PySem.W.Frag) (H0 H : Hp) (p : Addr) : Prop := ∃ (sL : Addr) (ns : List Int) (i b m c : Int), H p = some (.lst [.ref sL, .int i, .int b, .int m, .int c]) ∧ H0 sL = some (.lst (ns.map V.int)) ∧ 0 ≤ i ∧ 0 ≤ b

/-- a table of code objects, those at their addresses shared -/
def TbAt (H0 H : Hp) (p : Addr) (q : Str) : Prop := ∃ ps : Array Value, H p = some (.tbl ps) ∧ TriplesOk ps.toList ∧ ∀ (pos : Pos) (cv : Value), codeAmong pos ps.toList = some cv → ∃ c, cv = .ref c ∧ H0 c = some (LamX.CodeO c q)

def OwOk (K : PySem.W.Frag) (cl : Nat → Addr) (H0 H : Hp) (p : Addr) : Ow → Prop
  | .gone => False
  | .lst xs => H0 p = none ∧ ∃ vs, H p = some (.lst vs) ∧ Rs cl H0 xs vs
  | .dic ks ds => H0 p = none ∧ ∃ vs, H p = some (.dK (kvs ks vs)) ∧ ks.length = ds.length ∧ ks.Nodup ∧ Rs cl H0 ds vs
  | .ins c fs ds => H0 p = none ∧ ∃ dx vs, H p = some (.ins (cl c) dx (fs.zip vs)) ∧ fs.length = ds.length ∧ Rs cl H0 ds vs
  | .tape => H0 p = none ∧ TapeAt K H0 H p
  | .tb P q => p = P ∧ H0 p = none ∧ TbAt H0 H p q

structure Ok (K : PySem.W.Frag) (cl : Nat → Addr) (s : Sta) (w : List Ow) : Prop where
  lk : Lk s.H0 s.H
  nd : ∀ (i j : Nat) (p : Addr), s.ps[i]? = some (some p) → s.ps[j]? = some (some p) → i = j
  len : s.ps.length = w.length
  ow : ∀ (n : Nat) (p : Addr) (o : Ow), s.ps[n]? = some (some p) → w[n]? = some o → OwOk K cl s.H0 s.H p o
  tb : ∀ (n : Nat) (p : Addr) (q : Str), w[n]? = some (.tb p q) → s.ps[n]? = some (some p)

theorem tb_set {ps : List (Option Addr)} {w : List Ow} {n : Nat} {u : Ow} (k : ∀ (n : Nat) (p : Addr) (q : Str), w[n]? = some (.tb p q) → ps[n]? = some (some p)) (hu : ∀ (p : Addr) (q : Str), u = .tb p q → ps[n]? = some (some p)) (m : Nat) (p : Addr) (q : Str) (e : (w.set n u)[m]? = some (.tb p q)) : ps[m]? = some (some p) := by
  by_cases z : n = m
  · subst z
    rw [List.getElem?_set] at e
    simp only [if_true] at e
    split at e
    · exact hu p q (Option.some.inj e)
    · cases e
  · rw [List.getElem?_set_ne z] at e
    exact k m p q e
theorem tb_app {ps : List (Option Addr)} {w : List Ow} {u : Ow} {a : Addr} (k : ∀ (n : Nat) (p : Addr) (q : Str), w[n]? = some (.tb p q) → ps[n]? = some (some p)) (hl : ps.length = w.length) (hu : ∀ (p : Addr) (q : Str), u = .tb p q → a = p) (m : Nat) (p : Addr) (q : Str) (e : (w ++ [u])[m]? = some (.tb p q)) : (ps ++ [some a])[m]? = some (some p) := by
  by_cases z : m < w.length
  · rw [List.getElem?_append_left z] at e
    rw [List.getElem?_append_left (by omega)]
    exact k m p q e
  · have h1 := (List.getElem?_eq_some_iff.mp e).1
    rw [List.length_append, List.length_singleton] at h1
    have : m = w.length := by omega
    subst this
    rw [List.getElem?_append_right (Nat.le_refl _), Nat.sub_self] at e
    rw [List.getElem?_append_right (by omega), hl, Nat.sub_self]
    simp only [List.getElem?_cons_zero, Option.some.injEq] at e ⊢
    exact hu p q e
theorem tb_gone {ps : List (Option Addr)} {w : List Ow} {n : Nat} (k : ∀ (n : Nat) (p : Addr) (q : Str), w[n]? = some (.tb p q) → ps[n]? = some (some p)) (m : Nat) (p : Addr) (q : Str) (e : (w.set n .gone)[m]? = some (.tb p q)) : (ps.set n none)[m]? = some (some p) := by
  by_cases z : n = m
  · subst z
    rw [List.getElem?_set] at e
    simp only [if_true] at e
    split at e
    · cases e
    · cases e
  · rw [List.getElem?_set_ne z] at e
    rw [List.getElem?_set_ne z]
    exact k m p q e
theorem OwOk.tbp {K : PySem.W.Frag} {cl : Nat → Addr} {H0 H : Hp} {p : Addr} {u : Ow} (h : OwOk K cl H0 H p u) (p' : Addr) (q : Str) (e : u = .tb p' q) : p = p' := by
  subst e
  exact h.1
/-- from one state to a later one -/
structure Step (a b : Sta) : Prop where
  e0 : Ex a.H0 b.H0
  e1 : ∀ x o, a.H x = some o → some x ∉ a.ps → b.H x = some o
  e2 : ∀ x o, b.H0 x = some o → a.H0 x = some o ∨ a.H x = none
  e3 : a.ps <+: b.ps
  e4 : ∀ p, some p ∈ b.ps → some p ∈ a.ps ∨ a.H p = none
  e5 : ∀ p, some p ∈ a.ps → (a.H p).isSome = true → (b.H p).isSome = true
theorem Step.refl (a : Sta) : Step a a := ⟨.refl _, fun _ _ h _ => h, fun _ _ h => .inl h, List.prefix_refl _, fun _ h => .inl h, fun _ _ h => h⟩
theorem Step.some_ {a b : Sta} (h : Step a b) {x : Addr} (e : (a.H x).isSome = true) : (b.H x).isSome = true := by
  by_cases q : some x ∈ a.ps
  · exact h.e5 x q e
  · obtain ⟨o, e⟩ := Option.isSome_iff_exists.mp e
    rw [h.e1 x o e q]
    rfl
theorem Step.back {a b : Sta} (h : Step a b) {x : Addr} (e : b.H x = none) : a.H x = none := by
  cases q : a.H x with
  | none => rfl
  | some o =>
    have z := h.some_ (x := x) (by rw [q]; rfl)
    rw [e] at z
    cases z
theorem Step.trans {a b c : Sta} (h : Step a b) (k : Step b c) : Step a c where
  e0 := h.e0.trans k.e0
  e1 x o e n := by
    have e' := h.e1 x o e n
    refine k.e1 x o e' fun q => ?_
    rcases h.e4 x q with z | z
    · exact n z
    · rw [e] at z
      cases z
  e2 x o e := by
    rcases k.e2 x o e with z | z
    · exact h.e2 x o z
    · exact .inr (h.back z)
  e3 := h.e3.trans k.e3
  e4 p hp := by
    rcases k.e4 p hp with z | z
    · exact h.e4 p z
    · exact .inr (h.back z)
  e5 p hp e := k.some_ (h.e5 p hp e)

def Rv (cl : Nat → Addr) (s : Sta) : Sl → Option V → Prop
  | .u, _ => True
  | .d x, v => ∃ u, v = some u ∧ R cl s.H0 x u
  | .o n, v => ∃ p, s.ps[n]? = some (some p) ∧ v = some (.ref p)
theorem Rv.step {cl : Nat → Addr} {a b : Sta} (h : Step a b) : ∀ {r : Sl} {v : Option V}, Rv cl a r v → Rv cl b r v
  | .u, _, _ => trivial
  | .d _, _, ⟨u, e, q⟩ => ⟨u, e, q.mono h.e0⟩
  | .o n, _, ⟨p, e, q⟩ => ⟨p, by
    obtain ⟨t, ht⟩ := h.e3
    rw [← ht, List.getElem?_append_left (List.getElem?_eq_some_iff.mp e).1]
    exact e, q⟩

/-- slots -/
def Rvs (cl : Nat → Addr) (s : Sta) : List Sl → List (Option V) → Prop
  | [], vs => vs = []
  | x :: xs, vs => ∃ v r, vs = v :: r ∧ Rv cl s x v ∧ Rvs cl s xs r
theorem Rvs.step {cl : Nat → Addr} {a b : Sta} (h : Step a b) : ∀ {r : List Sl} {v : List (Option V)}, Rvs cl a r v → Rvs cl b r v
  | [], _, h => h
  | _ :: _, _, ⟨v, r, e, q, t⟩ => ⟨v, r, e, q.step h, Rvs.step h t⟩
theorem Rvs.get {cl : Nat → Addr} {s : Sta} {x : Sl} : ∀ {r : List Sl} {v : List (Option V)} {i : Nat}, Rvs cl s r v → r[i]? = some x → ∃ u, v[i]? = some u ∧ Rv cl s x u
  | [], _, _, _, e => by simp at e
  | y :: _, _, 0, ⟨v, r, h1, h2, _⟩, e => by
    subst h1
    have e' : y = x := by simpa using e
    exact ⟨v, rfl, e' ▸ h2⟩
  | _ :: _, _, i + 1, ⟨v, r, h1, _, h3⟩, e => by
    subst h1
    obtain ⟨w, e1, e2⟩ := Rvs.get (i := i) h3 (by simpa using e)
    exact ⟨w, by simpa using e1, e2⟩
theorem Rvs.set {cl : Nat → Addr} {s : Sta} {x : Sl} {u : Option V} : ∀ {r : List Sl} {v : List (Option V)} (i : Nat), Rvs cl s r v → Rv cl s x u → Rvs cl s (r.set i x) (v.set i u)
  | [], _, _, h, _ => by
    obtain rfl : _ = [] := h
    exact rfl
  | _ :: _, _, 0, ⟨w, r, h1, h2, h3⟩, q => by
    subst h1
    exact ⟨_, _, rfl, q, h3⟩
  | _ :: _, _, n + 1, ⟨w, r, h1, h2, h3⟩, q => by
    subst h1
    exact ⟨_, _, rfl, h2, Rvs.set n h3 q⟩
theorem Rvs.length {cl : Nat → Addr} {s : Sta} : ∀ {r : List Sl} {v : List (Option V)}, Rvs cl s r v → v.length = r.length
  | [], _, h => by
    obtain rfl : _ = [] := h
    rfl
  | _ :: _, _, ⟨v, r, h1, _, h3⟩ => by
    rw [h1, List.length_cons, List.length_cons, Rvs.length h3]
theorem Rvs.append {cl : Nat → Addr} {s : Sta} {es : List Sl} {us : List (Option V)} : ∀ {ds : List Sl} {vs : List (Option V)}, Rvs cl s ds vs → Rvs cl s es us → Rvs cl s (ds ++ es) (vs ++ us)
  | [], _, h, t => by
    obtain rfl : _ = [] := h
    exact t
  | _ :: _, _, ⟨v, r, h1, h2, h3⟩, t => by
    subst h1
    exact ⟨_, _, rfl, h2, Rvs.append h3 t⟩
theorem Rvs.us {cl : Nat → Addr} {s : Sta} : ∀ (n : Nat) (x : Option V), Rvs cl s (List.replicate n .u) (List.replicate n x)
  | 0, _ => rfl
  | n + 1, x => ⟨x, _, rfl, trivial, Rvs.us n x⟩
theorem Rvs.ds {cl : Nat → Addr} {s : Sta} : ∀ {ds : List D} {vs : List V}, Rs cl s.H0 ds vs → Rvs cl s (ds.map .d) (vs.map some)
  | [], _, h => by
    obtain rfl : _ = [] := h
    rfl
  | _ :: _, _, ⟨v, r, h1, h2, h3⟩ => by
    subst h1
    exact ⟨_, _, rfl, ⟨v, rfl, h2⟩, Rvs.ds h3⟩
theorem Rvs.to_ds {cl : Nat → Addr} {s : Sta} : ∀ {ds : List D} {vs : List V}, Rvs cl s (ds.map .d) (vs.map some) → Rs cl s.H0 ds vs
  | [], vs, h => by
    have h : vs.map some = [] := h
    have h' : vs = [] := by simpa using h
    exact h'
  | _ :: _, vs, ⟨v, r, h1, h2, h3⟩ => by
    cases vs with
    | nil => cases h1
    | cons x xs =>
      simp only [List.map_cons, List.cons.injEq] at h1
      obtain ⟨e1, e2⟩ := h1
      obtain ⟨u, e3, q⟩ := h2
      rw [← e1] at e3
      cases e3
      rw [← e2] at h3
      exact ⟨x, xs, rfl, q, Rvs.to_ds h3⟩

structure Env (K : PySem.W.Frag) (cl : Nat → Addr) (s : Sta) (σ : L2.St) (r : List Sl) (w : List Ow) : Prop where
  ok : Ok K cl s w
  sl : Rvs cl s r σ
theorem Env.step {K : PySem.W.Frag} {cl : Nat → Addr} {s s' : Sta} {σ : L2.St} {r : List Sl} {w w' : List Ow} (I : Env K cl s σ r w) (h : Step s s') (o : Ok K cl s' w') : Env K cl s' σ r w' := ⟨o, I.sl.step h⟩
end FV
set_option Elab.async false
set_option linter.all false
set_option maxRecDepth 100000
set_option maxHeartbeats 2000000
/-! The data layer, part B: judgements over data; expressions. -/
namespace FV
open PySem PySem.Spec PyProof.Rows L2

/-! ### readings by any derivation -/
section
variable (X : Cx)
def tE (e : Expr) : TE := fun σ H Q => ∃ t, PE X e t ∧ t σ H Q
def tT (e : Expr) : TT := fun σ H Q => ∃ t, PT X e t ∧ t σ H Q
def tW (e : Expr) : TT := fun σ H Q => ∃ t, PW X e t ∧ t σ H Q
def tA (es : List Expr) : TA := fun σ H Q => ∃ t, PA X es t ∧ t σ H Q
def tS (st : Stmt) : TS := fun D σ H => ∃ t, PS X st t ∧ t D σ H
def tSs (st : List Stmt) : TS := fun D σ H => ∃ t, PSs X st t ∧ t D σ H
def tG (e : Expr) : TG := fun v σ H Q => ∃ t, PG X e t ∧ t v σ H Q
def tGs (es : List Expr) : TGs := fun vs σ H Q => ∃ t, PGs X es t ∧ t vs σ H Q
def tIr (tg it : Expr) : TI := fun σ H Q => ∃ t, PI X tg it t ∧ t σ H Q
def tTs (cs : List Expr) : TT := fun σ H Q => ∃ t, PTs X cs t ∧ t σ H Q
end
section
variable {X : Cx}
theorem sE {e : Expr} : PE X e (tE X e) := ⟨fun pins s σ H Q I ⟨_, p, h⟩ => p.run pins s σ H Q I h⟩
theorem sT {e : Expr} : PT X e (tT X e) := ⟨fun pins s σ H Q I ⟨_, p, h⟩ => p.run pins s σ H Q I h⟩
theorem sW {e : Expr} : PW X e (tW X e) := ⟨fun whole pins s σ H Q I ⟨_, p, h⟩ => p.run whole pins s σ H Q I h⟩
theorem sA {e : List Expr} : PA X e (tA X e) := ⟨fun pos pins s σ H Q I ⟨_, p, h⟩ => p.run pos pins s σ H Q I h⟩
theorem sS {e : Stmt} : PS X e (tS X e) := ⟨fun pins s σ H Q I ⟨_, p, h⟩ => p.run pins s σ H Q I h⟩
theorem sSs {e : List Stmt} : PSs X e (tSs X e) := ⟨fun pins s σ H Q I ⟨_, p, h⟩ => p.run pins s σ H Q I h⟩
theorem sG {e : Expr} : PG X e (tG X e) := ⟨fun pins s σ H v u Q I r ⟨_, p, h⟩ => p.run pins s σ H v u Q I r h⟩
theorem sGs {e : List Expr} : PGs X e (tGs X e) := ⟨fun pins s σ H v u Q I r ⟨_, p, h⟩ => p.run pins s σ H v u Q I r h⟩
theorem sI {tg it : Expr} : PI X tg it (tIr X tg it) := ⟨fun pins s σ H Q I ⟨_, p, h⟩ => p.run pins s σ H Q I h⟩
theorem sTs {cs : List Expr} : PTs X cs (tTs X cs) := ⟨fun pins s σ H Q I ⟨_, p, h⟩ => p.run pins s σ H Q I h⟩
end

/-! ### new objects -/
def Sta.add (s : Sta) (p : Addr) (o : HO) : Sta := ⟨upd s.H0 p o, upd s.H p o, s.ps⟩
section
variable {K : PySem.W.Frag} {cl : Nat → Addr} {s : Sta} {w : List Ow} {p : Addr} {o : HO}
theorem Lk.nil {H0 H : Hp} (l : Lk H0 H) {a : Addr} (h : H a = none) : H0 a = none := by
  cases q : H0 a with
  | none => rfl
  | some o =>
    rcases l a o q with z | ⟨_, _, z⟩ <;> rw [h] at z <;> cases z
theorem Step.add (l : Lk s.H0 s.H) (h : s.H p = none) : Step s (s.add p o) where
  e0 := Ex.new (l.nil h)
  e1 x u e _ := by
    show upd s.H p o x = _
    rw [upd_ne (ne_of_none e h)]
    exact e
  e2 x u e := by
    by_cases q : x = p
    · rw [q]
      exact .inr h
    · have e : upd s.H0 p o x = _ := e
      rw [upd_ne q] at e
      exact .inl e
  e3 := List.prefix_refl _
  e4 _ h := .inl h
  e5 x _ e := by
    show (upd s.H p o x).isSome = true
    by_cases q : x = p
    · rw [q, upd_same]
      rfl
    · rw [upd_ne q]
      exact e
theorem TapeAt.ext {H0 H H0' H' : Hp} (e0 : Ex H0 H0') (e : H' p = H p) (h : TapeAt K H0 H p) : TapeAt K H0' H' p := by
  obtain ⟨sL, ns, i, b, m, c, h1, h2, h3⟩ := h
  exact ⟨sL, ns, i, b, m, c, e.trans h1, e0 _ _ h2, h3⟩
theorem TbAt.ext {H0 H H0' H' : Hp} {q : Str} (e0 : Ex H0 H0') (e : H' p = H p) (h : TbAt H0 H p q) : TbAt H0' H' p q := by
  obtain ⟨ps, h1, h2, h3⟩ := h
  refine ⟨ps, e.trans h1, h2, fun pos cv hc => ?_⟩
  obtain ⟨c, e1, e2⟩ := h3 pos cv hc
  exact ⟨c, e1, e0 _ _ e2⟩
theorem OwOk.ext {H0 H H0' H' : Hp} {u : Ow} (e0 : Ex H0 H0') (n : H0 p = none → H0' p = none) (e : H' p = H p) (h : OwOk K cl H0 H p u) : OwOk K cl H0' H' p u := by
  cases u with
  | gone => trivial
  | lst xs =>
    obtain ⟨h1, vs, h2, h3⟩ := h
    exact ⟨n h1, vs, e.trans h2, h3.mono e0⟩
  | dic ks ds =>
    obtain ⟨h1, vs, h2, h4, h5, h3⟩ := h
    exact ⟨n h1, vs, e.trans h2, h4, h5, h3.mono e0⟩
  | ins c fs ds =>
    obtain ⟨h1, dx, vs, h2, h4, h3⟩ := h
    exact ⟨n h1, dx, vs, e.trans h2, h4, h3.mono e0⟩
  | tape =>
    obtain ⟨h1, h2⟩ := h
    exact ⟨n h1, h2.ext e0 e⟩
  | tb P q =>
    obtain ⟨h0, h1, h2⟩ := h
    exact ⟨h0, n h1, h2.ext e0 e⟩
theorem OwOk.live {H0 H : Hp} {u : Ow} (h : OwOk K cl H0 H p u) (hu : u ≠ .gone) : H0 p = none ∧ (H p).isSome = true := by
  cases u with
  | gone => exact absurd rfl hu
  | lst xs =>
    obtain ⟨h1, vs, h2, h3⟩ := h
    exact ⟨h1, by rw [h2]; rfl⟩
  | dic ks ds =>
    obtain ⟨h1, vs, h2, h3⟩ := h
    exact ⟨h1, by rw [h2]; rfl⟩
  | ins c fs ds =>
    obtain ⟨h1, dx, vs, h2, h3⟩ := h
    exact ⟨h1, by rw [h2]; rfl⟩
  | tape =>
    obtain ⟨h1, sL, ns, i, b, m, c, h2, h3⟩ := h
    exact ⟨h1, by rw [h2]; rfl⟩
  | tb P q =>
    obtain ⟨_, h1, ps, h2, h3⟩ := h
    exact ⟨h1, by rw [h2]; rfl⟩
theorem Lk.add (l : Lk s.H0 s.H) (h : s.H p = none) : Lk (s.add p o).H0 (s.add p o).H := fun a u e => by
  have e : upd s.H0 p o a = some u := e
  show upd s.H p o a = some u ∨ _ ∧ ∃ ob, upd s.H p o a = _
  by_cases q : a = p
  · rw [q, upd_same] at e
    rw [q, upd_same]
    exact .inl e
  · rw [upd_ne q] at e
    rw [upd_ne q]
    exact l a u e
theorem Ok.own (k : Ok K cl s w) {q : Addr} (h : some q ∈ s.ps) : s.H0 q = none ∧ (s.H q).isSome = true := by
  obtain ⟨n, hn, e⟩ := List.mem_iff_getElem.mp h
  have e1 : s.ps[n]? = some (some q) := by rw [List.getElem?_eq_getElem hn, e]
  have hw : n < w.length := by rw [← k.len]; exact hn
  have z := k.ow n q w[n] e1 (List.getElem?_eq_getElem hw)
  exact z.live (fun e => by rw [e] at z; exact z)
theorem Ok.fresh (k : Ok K cl s w) (h : s.H p = none) : some p ∉ s.ps := fun q => by
  have z := (k.own q).2
  rw [h] at z
  cases z
theorem Ok.notow (k : Ok K cl s w) (h : s.H0 p = some o) : some p ∉ s.ps := fun q => by
  have z := (k.own q).1
  rw [h] at z
  cases z
theorem mem_ps {n : Nat} {q : Addr} (h : s.ps[n]? = some (some q)) : some q ∈ s.ps := List.mem_of_getElem? h
theorem Ok.add (k : Ok K cl s w) (h : s.H p = none) : Ok K cl (s.add p o) w where
  lk := k.lk.add h
  nd := k.nd
  len := k.len
  tb := k.tb
  ow n q u e1 e2 := by
    have z := k.ow n q u e1 e2
    have hq : q ≠ p := fun e => k.fresh h (mem_ps (by rw [← e]; exact e1))
    refine z.ext (Ex.new (k.lk.nil h)) (fun e => ?_) ?_
    · show upd s.H0 p o q = none
      rw [upd_ne hq]
      exact e
    · show upd s.H p o q = s.H q
      rw [upd_ne hq]
/-- the owned ones stay behind a step that knows none of them -/
theorem Ok.over {s' : Sta} (k : Ok K cl s w) (l : Lk s'.H0 s'.H) (st : Step ⟨s.H0, s.H, []⟩ s') : Ok K cl ⟨s'.H0, s'.H, s.ps⟩ w where
  lk := l
  nd := k.nd
  len := k.len
  tb := k.tb
  ow n q u e1 e2 := by
    have z := k.ow n q u e1 e2
    obtain ⟨_, l2⟩ := k.own (mem_ps e1)
    obtain ⟨o, ho⟩ := Option.isSome_iff_exists.mp l2
    refine z.ext st.e0 (fun e => ?_) ((st.e1 q o ho (by simp)).trans ho.symm)
    show s'.H0 q = none
    cases hh : s'.H0 q with
    | none => rfl
    | some o2 =>
      rcases st.e2 q o2 hh with a | a
      · have a : s.H0 q = some o2 := a
        rw [e] at a
        cases a
      · have a : s.H q = none := a
        rw [a] at ho
        cases ho
/-- an object that nobody knows but one who builds it: D -/
theorem Ok.put {D : Addr} (k : Ok K cl s w) (hD : some D ∉ s.ps) (h0 : s.H0 D = none) : Ok K cl ⟨s.H0, upd s.H D o, s.ps⟩ w where
  lk a u e := by
    have q : a ≠ D := ne_of_none e h0
    show upd s.H D o a = some u ∨ _ ∧ ∃ ob, upd s.H D o a = _
    rw [upd_ne q]
    exact k.lk a u e
  nd := k.nd
  len := k.len
  tb := k.tb
  ow n q u e1 e2 := by
    have hq : q ≠ D := fun e => hD (by rw [← e]; exact mem_ps e1)
    refine (k.ow n q u e1 e2).ext (Ex.refl _) (fun e => e) ?_
    show upd s.H D o q = s.H q
    rw [upd_ne hq]
theorem Step.put {a : Sta} {D : Addr} (st : Step a s) (hD : a.H D = none) : Step a ⟨s.H0, upd s.H D o, s.ps⟩ where
  e0 := st.e0
  e1 x u e n := by
    show upd s.H D o x = some u
    rw [upd_ne (ne_of_none e hD)]
    exact st.e1 x u e n
  e2 := st.e2
  e3 := st.e3
  e4 := st.e4
  e5 x h e := by
    show (upd s.H D o x).isSome = true
    by_cases q : x = D
    · rw [q, upd_same]
      rfl
    · rw [upd_ne q]
      exact st.e5 x h e
theorem Ok.freeze {D : Addr} (k : Ok K cl s w) (hD : some D ∉ s.ps) (h0 : s.H0 D = none) (h : s.H D = some o) : Ok K cl ⟨upd s.H0 D o, s.H, s.ps⟩ w where
  lk a u e := by
    have e : upd s.H0 D o a = some u := e
    by_cases q : a = D
    · rw [q, upd_same] at e
      rw [q]
      exact .inl (h.trans e)
    · rw [upd_ne q] at e
      exact k.lk a u e
  nd := k.nd
  len := k.len
  tb := k.tb
  ow n q u e1 e2 := by
    have hq : q ≠ D := fun e => hD (by rw [← e]; exact mem_ps e1)
    refine (k.ow n q u e1 e2).ext (Ex.new h0) (fun e => ?_) rfl
    show upd s.H0 D o q = none
    rw [upd_ne hq]
    exact e
theorem Step.freeze {a : Sta} {D : Addr} (st : Step a s) (hD : a.H D = none) (h0 : s.H0 D = none) : Step a ⟨upd s.H0 D o, s.H, s.ps⟩ where
  e0 := st.e0.trans (Ex.new h0)
  e1 := st.e1
  e2 x u e := by
    have e : upd s.H0 D o x = some u := e
    by_cases q : x = D
    · rw [q]
      exact .inr hD
    · rw [upd_ne q] at e
      exact st.e2 x u e
  e3 := st.e3
  e4 := st.e4
  e5 := st.e5
theorem Step.over {s' : Sta} (st : Step ⟨s.H0, s.H, []⟩ s') : Step s ⟨s'.H0, s'.H, s.ps⟩ where
  e0 := st.e0
  e1 x o e _ := st.e1 x o e (by simp)
  e2 := st.e2
  e3 := List.prefix_refl _
  e4 _ h := .inl h
  e5 x _ e := by
    obtain ⟨o, ho⟩ := Option.isSome_iff_exists.mp e
    show (s'.H x).isSome = true
    rw [st.e1 x o ho (by simp)]
    rfl
end

/-! ### judgements -/
section
variable (cl : Nat → Addr) (X : Cx)
/-- e, from slots r and owned w, gives what F says -/
def WE (r : List Sl) (w : List Ow) (e : Expr) (F : Sl → List Ow → Prop) : Prop := ∀ (s : Sta) (σ : L2.St), Env X.K cl s σ r w → ∀ Q : VK, (∀ v s' x w', Step s s' → Ok X.K cl s' w' → Rv cl s' x (some v) → F x w' → Q v s'.H) → tE X e σ s.H Q
/-- it gives the datum d, and nothing owned changes -/
def WP (r : List Sl) (w : List Ow) (e : Expr) (d : D) : Prop := ∀ (s : Sta) (σ : L2.St), Env X.K cl s σ r w → ∀ Q : VK, (∀ v s', Step s s' → Ok X.K cl s' w → R cl s'.H0 d v → Q v s'.H) → tE X e σ s.H Q
def WAp (r : List Sl) (w : List Ow) (es : List Expr) (ds : List D) : Prop := ∀ (s : Sta) (σ : L2.St), Env X.K cl s σ r w → ∀ Q : List V → Hp → Prop, (∀ vs s', Step s s' → Ok X.K cl s' w → Rs cl s'.H0 ds vs → Q vs s'.H) → tA X es σ s.H Q
/-- a test -/
def WT (r : List Sl) (w : List Ow) (e : Expr) (b : Bool) : Prop := ∀ (s : Sta) (σ : L2.St), Env X.K cl s σ r w → ∀ Q : Bool → Hp → Prop, (∀ s', Step s s' → Ok X.K cl s' w → Q b s'.H) → tT X e σ s.H Q
def WW (r : List Sl) (w : List Ow) (e : Expr) (b : Bool) : Prop := ∀ (s : Sta) (σ : L2.St), Env X.K cl s σ r w → ∀ Q : Bool → Hp → Prop, (∀ s', Step s s' → Ok X.K cl s' w → Q b s'.H) → tW X e σ s.H Q
def WTs (r : List Sl) (w : List Ow) (cs : List Expr) (b : Bool) : Prop := ∀ (s : Sta) (σ : L2.St), Env X.K cl s σ r w → ∀ Q : Bool → Hp → Prop, (∀ s', Step s s' → Ok X.K cl s' w → Q b s'.H) → tTs X cs σ s.H Q
/-- a target: the slots is change -/
def WG (r : List Sl) (w : List Ow) (tg : Expr) (x : D) (is : List Nat) (r' : List Sl) : Prop := ∀ (s : Sta) (σ : L2.St) (v : V), Env X.K cl s σ r w → R cl s.H0 x v → ∀ Q : L2.St → Hp → Prop, (∀ σ', Rvs cl s r' σ' → σ'.length = σ.length → (∀ j, j ∉ is → σ'[j]? = σ[j]?) → Q σ' s.H) → tG X tg v σ s.H Q
end
/-- an iterator over the data ds -/
structure ItD (K : PySem.W.Frag) (cl : Nat → Addr) (J : It) (s0 : Sta) (ds : List D) : Prop where
  item : ∀ (i : Nat) (x : D) (s : Sta), Step s0 s → Lk s.H0 s.H → ds[i]? = some x → J.go i s.H ∧ ∀ v H', J.yld i s.H v H' → ∃ s', s'.H = H' ∧ Step s s' ∧ (∀ w, Ok K cl s w → Ok K cl s' w) ∧ R cl s'.H0 x v
  stop : ∀ s, Step s0 s → Lk s.H0 s.H → J.stop ds.length s.H
def WI (cl : Nat → Addr) (X : Cx) (r : List Sl) (w : List Ow) (tg it : Expr) (ds : List D) : Prop := ∀ (s : Sta) (σ : L2.St), Env X.K cl s σ r w → ∀ Q : It → Hp → Prop, (∀ J s', Step s s' → Ok X.K cl s' w → ItD X.K cl J s' ds → Q J s'.H) → tIr X tg it σ s.H Q

section
variable {cl : Nat → Addr} {X : Cx} {r : List Sl} {w : List Ow} {e a b c : Expr} {d x y z : D} {pos : Pos}
theorem WP.we (h : WP cl X r w e d) {F : Sl → List Ow → Prop} (hf : F (.d d) w) : WE cl X r w e F := fun s σ I Q k => h s σ I Q fun v s' st ok rv => k v s' (.d d) w st ok ⟨v, rfl, rv⟩ hf
theorem wp_is (h : WP cl X r w e x) (q : x = y) : WP cl X r w e y := q ▸ h
theorem wt_is {p q : Bool} (h : WT cl X r w e p) (k : p = q) : WT cl X r w e q := k ▸ h

/-! ### names, constants -/
theorem wp_v (i : Nat) {n : Str} (hr : r[i]? = some (.d d) := by rfl) (hN : X.N[i]? = some n := by rfl) (hv : Vis X.env.scope n := by first | exact Or.inl rfl | exact Or.inr (Or.inl rfl) | exact Or.inr (Or.inr rfl)) (hd : (n == ("__debug__" : Str)) = false := by decide)
    (hcd : (n == ("__classdict__" : Str)) = false := by decide) : WP cl X r w (.Name n pos) d := fun s σ I Q k => by
  obtain ⟨u, e1, e2⟩ := I.sl.get hr
  obtain ⟨v, e3, q⟩ := e2
  subst e3
  exact ⟨_, pe_var hN hv hd hcd, v, e1, k v s (.refl s) I.ok q⟩
theorem wp_int {i : Int} {j p} : WP cl X r w (.Constant (.int i) j p) (.int i) := fun s σ I Q k => ⟨_, pe_int, k _ s (.refl s) I.ok rfl⟩
theorem wp_bl {i : Bool} {j p} : WP cl X r w (.Constant (.bool i) j p) (.bl i) := fun s σ I Q k => ⟨_, pe_bl, k _ s (.refl s) I.ok rfl⟩
theorem wp_non {j p} : WP cl X r w (.Constant .none j p) .non := fun s σ I Q k => ⟨_, pe_non, k _ s (.refl s) I.ok rfl⟩
theorem wp_str {i : Str} {j p} : WP cl X r w (.Constant (.str i) j p) (.str i) := fun s σ I Q k => ⟨_, pe_str, k _ s (.refl s) I.ok rfl⟩
theorem wp_gint {n : Str} {i : Int} (hm : ∃ t, X.mg n = some (.int i t)) (hg : Gl X n := by rfl) (hd : (n == ("__debug__" : Str)) = false := by decide) : WP cl X r w (.Name n pos) (.int i) := fun s σ I Q k => by
  obtain ⟨t, ht⟩ := hm
  exact ⟨_, pe_glob (v := .int i) hg ht ⟨t, rfl⟩ hd, k _ s (.refl s) I.ok rfl⟩

/-! ### operators -/
/-- by values -/
def RV (K : PySem.W.Frag) (cl : Nat → Addr) (q : R2) (x y : D) (w : List Ow) (z : D) : Prop := ∀ (s : Sta) (u v : V), Ok K cl s w → R cl s.H0 x u → R cl s.H0 y v → ∀ Q : VK, (∀ t s', Step s s' → Ok K cl s' w → R cl s'.H0 z t → Q t s'.H) → q u v s.H Q
theorem wp_two {q : R2} (ha : WP cl X r w a x) (hb : WP cl X r w b y) (hq : RV X.K cl q x y w z) (s : Sta) (σ : L2.St) (I : Env X.K cl s σ r w) (Q : VK) (k : ∀ v s', Step s s' → Ok X.K cl s' w → R cl s'.H0 z v → Q v s'.H) : tOp q (tE X a) (tE X b) σ s.H Q :=
  ha s σ I _ fun u s1 st1 ok1 r1 => hb s1 σ (I.step st1 ok1) _ fun v s2 st2 ok2 r2 => hq s2 u v ok2 (r1.mono st2.e0) r2 Q fun t s3 st3 ok3 r3 => k t s3 ((st1.trans st2).trans st3) ok3 r3
theorem wp_bin {op : Operator} {q : R2} (ho : OpR X (binaryOp op) q) (ha : WP cl X r w a x) (hb : WP cl X r w b y) (hq : RV X.K cl q x y w z) : WP cl X r w (.BinOp a op b pos) z := fun s σ I Q k => ⟨_, pe_op ho sE sE, wp_two ha hb hq s σ I Q k⟩
theorem wp_cmp {op : CmpOp} {q : R2} (ho : OpR X (compareOp op) q) (ha : WP cl X r w a x) (hb : WP cl X r w b y) (hq : RV X.K cl q x y w z) (hm : behindInMarks op b = false) : WP cl X r w (.Compare a [op] [b] pos) z := fun s σ I Q k => ⟨_, pe_cmpR ho sE sE hm, wp_two ha hb hq s σ I Q k⟩
theorem wt_cmp {op : CmpOp} {q : R2} {t : Bool} (ho : OpR X (compareOp op) q) (ha : WP cl X r w a x) (hb : WP cl X r w b y) (hq : RV X.K cl q x y w (.bl t)) (hm : behindInMarks op b = false) : WT cl X r w (.Compare a [op] [b] pos) t := fun s σ I Q k =>
  ⟨_, pt_cmpR ho sE sE hm, wp_two ha hb hq s σ I _ fun v s' st ok rv => ⟨t, rv, k s' st ok⟩⟩
theorem rv_I0 {K : PySem.W.Frag} {g : Int → Int → V} {i j : Int} {z : D} (hz : ∀ H, R cl H z (g i j)) : RV K cl (rI0 g) (.int i) (.int j) w z := fun s u v ok e1 e2 Q k => ⟨i, j, e1, e2, k _ s (.refl s) ok (hz _)⟩
theorem rv_I {K : PySem.W.Frag} {C : Int → Int → Prop} {g : Int → Int → V} {i j : Int} {z : D} (hc : C i j) (hz : ∀ H, R cl H z (g i j)) : RV K cl (rI C g) (.int i) (.int j) w z := fun s u v ok e1 e2 Q k => ⟨i, j, e1, e2, hc, k _ s (.refl s) ok (hz _)⟩
theorem wp_add {i j : Int} (ha : WP cl X r w a (.int i)) (hb : WP cl X r w b (.int j)) : WP cl X r w (.BinOp a .Add b pos) (.int (i + j)) := wp_bin op_add ha hb (rv_I0 fun _ => rfl)
theorem wp_sub {i j : Int} (ha : WP cl X r w a (.int i)) (hb : WP cl X r w b (.int j)) : WP cl X r w (.BinOp a .Sub b pos) (.int (i - j)) := wp_bin op_sub ha hb (rv_I0 fun _ => rfl)
theorem wp_mul {i j : Int} (ha : WP cl X r w a (.int i)) (hb : WP cl X r w b (.int j)) (h : CMul i j) : WP cl X r w (.BinOp a .Mult b pos) (.int (i * j)) := wp_bin op_mul ha hb (rv_I h fun _ => rfl)
theorem wp_mod {i j : Int} (ha : WP cl X r w a (.int i)) (hb : WP cl X r w b (.int j)) (h : 0 < j) : WP cl X r w (.BinOp a .Mod b pos) (.int (i % j)) := wp_bin op_mod ha hb (rv_I h fun _ => rfl)
theorem wp_fdiv {i j : Int} (ha : WP cl X r w a (.int i)) (hb : WP cl X r w b (.int j)) (h : CDiv i j) : WP cl X r w (.BinOp a .FloorDiv b pos) (.int (i / j)) := wp_bin op_fdiv ha hb (rv_I h fun _ => rfl)
theorem wt_lt {i j : Int} (ha : WP cl X r w a (.int i)) (hb : WP cl X r w b (.int j)) : WT cl X r w (.Compare a [.Lt] [b] pos) (decide (i < j)) := wt_cmp op_lt ha hb (rv_I0 fun _ => rfl) (nomark _)
theorem wt_le {i j : Int} (ha : WP cl X r w a (.int i)) (hb : WP cl X r w b (.int j)) : WT cl X r w (.Compare a [.LtE] [b] pos) (decide (i ≤ j)) := wt_cmp op_le ha hb (rv_I0 fun _ => rfl) (nomark _)
theorem wt_gt {i j : Int} (ha : WP cl X r w a (.int i)) (hb : WP cl X r w b (.int j)) : WT cl X r w (.Compare a [.Gt] [b] pos) (decide (j < i)) := wt_cmp op_gt ha hb (rv_I0 fun _ => rfl) (nomark _)
theorem wt_ge {i j : Int} (ha : WP cl X r w a (.int i)) (hb : WP cl X r w b (.int j)) : WT cl X r w (.Compare a [.GtE] [b] pos) (decide (j ≤ i)) := wt_cmp op_ge ha hb (rv_I0 fun _ => rfl) (nomark _)
theorem wp_lt {i j : Int} (ha : WP cl X r w a (.int i)) (hb : WP cl X r w b (.int j)) : WP cl X r w (.Compare a [.Lt] [b] pos) (.bl (decide (i < j))) := wp_cmp op_lt ha hb (rv_I0 fun _ => rfl) (nomark _)
theorem wp_gt {i j : Int} (ha : WP cl X r w a (.int i)) (hb : WP cl X r w b (.int j)) : WP cl X r w (.Compare a [.Gt] [b] pos) (.bl (decide (j < i))) := wp_cmp op_gt ha hb (rv_I0 fun _ => rfl) (nomark _)
/-- == of two ints -/
theorem rv_eqI {K : PySem.W.Frag} {i j : Int} : RV K cl rEq (.int i) (.int j) w (.bl (decide (i = j))) := fun s u v ok e1 e2 Q k => by
  obtain rfl : u = .int i := e1
  obtain rfl : v = .int j := e2
  refine ⟨rfl, k _ s (.refl s) ok ?_⟩
  show V.bl (decide (V.int i = V.int j)) = V.bl (decide (i = j))
  congr 1
  exact decide_eq_decide.mpr ⟨fun h => V.int.inj h, fun h => by rw [h]⟩
theorem rv_neI {K : PySem.W.Frag} {i j : Int} : RV K cl rNe (.int i) (.int j) w (.bl (!decide (i = j))) := fun s u v ok e1 e2 Q k => by
  obtain rfl : u = .int i := e1
  obtain rfl : v = .int j := e2
  refine ⟨rfl, k _ s (.refl s) ok ?_⟩
  show V.bl (!decide (V.int i = V.int j)) = V.bl (!decide (i = j))
  congr 2
  exact decide_eq_decide.mpr ⟨fun h => V.int.inj h, fun h => by rw [h]⟩
theorem wt_eq {i j : Int} (ha : WP cl X r w a (.int i)) (hb : WP cl X r w b (.int j)) : WT cl X r w (.Compare a [.Eq] [b] pos) (decide (i = j)) := wt_cmp op_eq ha hb rv_eqI (nomark _)
theorem wt_ne {i j : Int} (ha : WP cl X r w a (.int i)) (hb : WP cl X r w b (.int j)) : WT cl X r w (.Compare a [.NotEq] [b] pos) (!decide (i = j)) := wt_cmp op_ne ha hb rv_neI (nomark _)
theorem wp_eq {i j : Int} (ha : WP cl X r w a (.int i)) (hb : WP cl X r w b (.int j)) : WP cl X r w (.Compare a [.Eq] [b] pos) (.bl (decide (i = j))) := wp_cmp op_eq ha hb rv_eqI (nomark _)
/-- least <= x <= most -/
theorem wp_chain {i j k : Int} (ha : WP cl X r w a (.int i)) (hb : WP cl X r w b (.int j)) (hc : WP cl X r w c (.int k)) (hm : lastMarks [.LtE, .LtE] [b, c] = false := by with_unfolding_all rfl) : WP cl X r w (.Compare a [.LtE, .LtE] [b, c] pos) (.bl (decide (i ≤ j) && decide (j ≤ k))) := fun s σ I Q q =>
  ⟨_, pe_chain op_le op_le sE sE sE hm, ha s σ I _ fun u s1 st1 ok1 r1 => hb s1 σ (I.step st1 ok1) _ fun v s2 st2 ok2 r2 => ⟨i, j, r1, r2, _, rfl, by
    by_cases h : i ≤ j
    · rw [if_pos (decide_eq_true h)]
      refine hc s2 σ ((I.step st1 ok1).step st2 ok2) _ fun t s3 st3 ok3 r3 => ⟨j, k, r2, r3, ?_⟩
      refine q _ s3 ((st1.trans st2).trans st3) ok3 ?_
      show V.bl _ = V.bl _
      rw [decide_eq_true h, Bool.true_and]
    · rw [if_neg (by rw [decide_eq_false h]; decide)]
      refine q _ s2 (st1.trans st2) ok2 ?_
      show V.bl _ = V.bl _
      rw [decide_eq_false h, Bool.false_and]⟩⟩
theorem wt_val {t : Bool} (ha : WP cl X r w a (.bl t)) (he : ∀ whole, isTrue a X.env whole = (do let v ← whole; standAt a.pos; holding [v] (truthy v)) := by intro _; rfl) : WT cl X r w a t := fun s σ I Q q => ⟨_, pt_val sE he, ha s σ I _ fun v s' st ok rv => ⟨t, rv, q s' st ok⟩⟩
theorem wt_isN (ha : WP cl X r w a d) {t : Bool} (ht : ∀ H v, R cl H d v → decide (v = .non) = t) {j p2} : WT cl X r w (.Compare a [.Is] [.Constant .none j p2] pos) t := fun s σ I Q q =>
  ⟨_, pt_cmpR op_isN sE pe_non (nomark _), ha s σ I _ fun v s' st ok rv => ⟨rfl, t, by rw [ht _ v rv], q s' st ok⟩⟩
theorem wt_notN (ha : WP cl X r w a d) {t : Bool} (ht : ∀ H v, R cl H d v → decide (v = .non) = t) {j p2} : WT cl X r w (.Compare a [.IsNot] [.Constant .none j p2] pos) (!t) := fun s σ I Q q =>
  ⟨_, pt_cmpR op_notN sE pe_non (nomark _), ha s σ I _ fun v s' st ok rv => ⟨rfl, !t, by rw [ht _ v rv], q s' st ok⟩⟩
theorem isN_non : ∀ (H : Hp) (v : V), R cl H .non v → decide (v = .non) = true := fun H v h => by
  obtain rfl : v = .non := h
  rfl
theorem isN_ref {v : V} (h : ∃ a, v = .ref a) : decide (v = .non) = false := by
  obtain ⟨a, rfl⟩ := h
  rfl
theorem isN_lst {xs : List D} : ∀ (H : Hp) (v : V), R cl H (.lst xs) v → decide (v = .non) = false := fun H v ⟨a, _, h, _⟩ => isN_ref ⟨a, h⟩
theorem isN_dic {ks : List Int} {xs : List D} : ∀ (H : Hp) (v : V), R cl H (.dic ks xs) v → decide (v = .non) = false := fun H v ⟨a, _, h, _⟩ => isN_ref ⟨a, h⟩
theorem isN_obj {n : Nat} {fs : List Str} {xs : List D} : ∀ (H : Hp) (v : V), R cl H (.obj n fs xs) v → decide (v = .non) = false := fun H v ⟨a, _, _, h, _⟩ => isN_ref ⟨a, h⟩

/-! ### and, or, not, if -/
theorem wt_ww {t : Bool} (h : WW cl X r w e t) : WT cl X r w e t := fun s σ I Q q => ⟨_, sW.pt, h s σ I Q q⟩
theorem ww_and1 {t : Bool} (h : WT cl X r w a t) : WW cl X r w (.BoolOp .And [a] pos) t := fun s σ I Q q => ⟨_, pw_and1 sT, h s σ I Q q⟩
theorem ww_or1 {t : Bool} (h : WT cl X r w a t) : WW cl X r w (.BoolOp .Or [a] pos) t := fun s σ I Q q => ⟨_, pw_or1 sT, h s σ I Q q⟩
theorem ww_and {t u : Bool} {rest : List Expr} (h : WT cl X r w a t) (k : t = true → WW cl X r w (.BoolOp .And (b :: rest) pos) u) : WW cl X r w (.BoolOp .And (a :: b :: rest) pos) (t && u) := fun s σ I Q q =>
  ⟨_, pw_and sT sW, h s σ I _ fun s1 st ok => by
    cases t with
    | true => exact k rfl s1 σ (I.step st ok) Q fun s2 st2 ok2 => q s2 (st.trans st2) ok2
    | false => exact q s1 st ok⟩
theorem ww_or {t u : Bool} {rest : List Expr} (h : WT cl X r w a t) (k : t = false → WW cl X r w (.BoolOp .Or (b :: rest) pos) u) : WW cl X r w (.BoolOp .Or (a :: b :: rest) pos) (t || u) := fun s σ I Q q =>
  ⟨_, pw_or sT sW, h s σ I _ fun s1 st ok => by
    cases t with
    | false => exact k rfl s1 σ (I.step st ok) Q fun s2 st2 ok2 => q s2 (st.trans st2) ok2
    | true => exact q s1 st ok⟩
theorem wt_not {t : Bool} (h : WT cl X r w a t) : WT cl X r w (.UnaryOp .Not a pos) (!t) := fun s σ I Q q => ⟨_, pt_not sT, h s σ I _ fun s' st ok => q s' st ok⟩
theorem wp_not {t : Bool} (h : WP cl X r w a (.bl t)) : WP cl X r w (.UnaryOp .Not a pos) (.bl (!t)) := fun s σ I Q q => ⟨_, pe_not sE, h s σ I _ fun v s' st ok rv => ⟨t, rv, q _ s' st ok rfl⟩⟩
theorem wp_one (h : WP cl X r w a d) {op : BoolOp} : WP cl X r w (.BoolOp op [a] pos) d := fun s σ I Q q => ⟨_, pe_one sE, h s σ I Q q⟩
theorem wp_and {t u : Bool} {rest : List Expr} (h : WP cl X r w a (.bl t)) (k : t = true → WP cl X r w (.BoolOp .And (b :: rest) pos) (.bl u)) : WP cl X r w (.BoolOp .And (a :: b :: rest) pos) (.bl (t && u)) := fun s σ I Q q =>
  ⟨_, pe_and sE sE, h s σ I _ fun v s1 st ok rv => ⟨t, rv, by
    cases t with
    | true =>
      rw [if_pos rfl]
      exact k rfl s1 σ (I.step st ok) Q fun v2 s2 st2 ok2 rv2 => q v2 s2 (st.trans st2) ok2 rv2
    | false =>
      rw [if_neg Bool.false_ne_true]
      exact q _ s1 st ok rfl⟩⟩
theorem wp_ifT {t : Bool} (h : WT cl X r w c t) (ht : t = true) (ha : WP cl X r w a d) : WP cl X r w (.IfExp c a b pos) d := fun s σ I Q q => ⟨_, pe_ifExp sT sE sE, h s σ I _ fun s1 st ok => by
  rw [if_pos ht]
  exact ha s1 σ (I.step st ok) Q fun v2 s2 st2 ok2 rv2 => q v2 s2 (st.trans st2) ok2 rv2⟩
theorem wp_ifF {t : Bool} (h : WT cl X r w c t) (ht : t = false) (hb : WP cl X r w b d) : WP cl X r w (.IfExp c a b pos) d := fun s σ I Q q => ⟨_, pe_ifExp sT sE sE, h s σ I _ fun s1 st ok => by
  rw [if_neg (by rw [ht]; exact Bool.false_ne_true)]
  exact hb s1 σ (I.step st ok) Q fun v2 s2 st2 ok2 rv2 => q v2 s2 (st.trans st2) ok2 rv2⟩
theorem wp_if {t : Bool} (h : WT cl X r w c t) (ha : t = true → WP cl X r w a d) (hb : t = false → WP cl X r w b d) : WP cl X r w (.IfExp c a b pos) d := by
  cases t with
  | true => exact wp_ifT h rfl (ha rfl)
  | false => exact wp_ifF h rfl (hb rfl)

/-! ### argument lists -/
theorem wa_nil : WAp cl X r w [] [] := fun s σ I Q q => ⟨_, pa_nil, q [] s (.refl s) I.ok .nil⟩
theorem wa_cons {es : List Expr} {ds : List D} (h : WP cl X r w e d) (t : WAp cl X r w es ds) (hs : starEach (e :: es) X.env = (false, eval e X.env) :: starEach es X.env := by rfl) : WAp cl X r w (e :: es) (d :: ds) := fun s σ I Q q =>
  ⟨_, pa_cons sE sA hs, h s σ I _ fun v s1 st1 ok1 r1 => t s1 σ (I.step st1 ok1) _ fun vs s2 st2 ok2 r2 => q _ s2 (st1.trans st2) ok2 (.cons (r1.mono st2.e0) r2)⟩
theorem small {n : Nat} (h : n ≤ 100000) : n ≤ sizeLine := Nat.le_trans h (by decide)
/-! ### tuples, lists written -/
theorem wp_tup {es : List Expr} {ds : List D} {k : Nat} (h : WAp cl X r w es ds) (hl : ds.length ≤ 100000) : WP cl X r w (.Tuple es k pos) (.tup ds) := fun s σ I Q q =>
  ⟨_, pe_tup sA, h s σ I _ fun vs s1 st ok rs => ⟨by rw [rs.length]; exact small hl, fun p np => q _ (s1.add p (.tup vs)) (st.trans (.add ok.lk np)) (ok.add np) ⟨p, vs, rfl, upd_same, rs.mono (Ex.new (ok.lk.nil np))⟩⟩⟩
theorem wp_lst {es : List Expr} {ds : List D} (h : WAp cl X r w es ds) (hl : ds.length ≤ 100000) : WP cl X r w (.List es pos) (.lst ds) := fun s σ I Q q =>
  ⟨_, pe_lst sA, h s σ I _ fun vs s1 st ok rs => ⟨by rw [rs.length]; exact small hl, fun p np => q _ (s1.add p (.lst vs)) (st.trans (.add ok.lk np)) (ok.add np) ⟨p, vs, rfl, upd_same, rs.mono (Ex.new (ok.lk.nil np))⟩⟩⟩
end
end FV
set_option Elab.async false
set_option linter.all false
set_option maxRecDepth 100000
set_option maxHeartbeats 2000000
/-! The data layer, part C: containers, calls. -/
namespace FV
open PySem PySem.Spec PyProof.Rows L2

/-- the built-in names that the text leaves alone -/
structure Bl (mg : Str → Option Value) : Prop where
  len : mg "len" = none
  range : mg "range" = none
  sorted : mg "sorted" = none
  min : mg "min" = none
  sum : mg "sum" = none
  list : mg "list" = none
  tuple : mg "tuple" = none
  dict : mg "dict" = none
  set : mg "set" = none
  int : mg "int" = none
  bool : mg "bool" = none
  enumerate : mg "enumerate" = none
  zip : mg "zip" = none
  all : mg "all" = none
  any : mg "any" = none
  abs : mg "abs" = none
  isinstance : mg "isinstance" = none

def RC (K : PySem.W.Frag) (cl : Nat → Addr) (q : List V → Hp → VK → Prop) (ds : List D) (w : List Ow) (z : D) : Prop := ∀ (s : Sta) (vs : List V), Ok K cl s w → Rs cl s.H0 ds vs → ∀ Q : VK, (∀ t s', Step s s' → Ok K cl s' w → R cl s'.H0 z t → Q t s'.H) → q vs s.H Q

section
variable {cl : Nat → Addr} {X : Cx} {r : List Sl} {w : List Ow} {e a b c : Expr} {d x y z : D} {pos p p2 : Pos} {n : Str} {es : List Expr} {ds : List D}
theorem wp_call {id : String} {q : List V → Hp → VK → Prop} (hc : CallR X (.builtin id) q) (hm : X.mg n = none) (hv : bootBuiltins n = some (.builtin id)) (ha : WAp cl X r w (e :: es) ds) (hq : RC X.K cl q ds w z) (hg : Gl X n) (hn : n ≠ "__name__") (hdb : (n == ("__debug__" : Str)) = false)
    (he : starEach (e :: es) X.env = (false, eval e X.env) :: starEach es X.env) (hpl : (backTo pos (starEach es X.env)).any (·.1) = false) : WP cl X r w (.Call (.Name n p) (e :: es) [] pos) z := fun s σ I Q k =>
  ⟨_, pe_callB hc hg hm hv sA hn hdb he hpl, ha s σ I _ fun vs s1 st ok rs => hq s1 vs ok rs Q fun t s2 st2 ok2 rv => k t s2 (st.trans st2) ok2 rv⟩
theorem wp_callTy {id : String} {q : List V → Hp → VK → Prop} (hc : CallR X (.type id) q) (hm : X.mg n = none) (hv : bootBuiltins n = some (.type id)) (ha : WAp cl X r w (e :: es) ds) (hq : RC X.K cl q ds w z) (hg : Gl X n) (hn : n ≠ "__name__") (hdb : (n == ("__debug__" : Str)) = false)
    (he : starEach (e :: es) X.env = (false, eval e X.env) :: starEach es X.env) (hpl : (backTo pos (starEach es X.env)).any (·.1) = false) : WP cl X r w (.Call (.Name n p) (e :: es) [] pos) z := fun s σ I Q k =>
  ⟨_, pe_callTy hc hg hm hv sA hn hdb he hpl, ha s σ I _ fun vs s1 st ok rs => hq s1 vs ok rs Q fun t s2 st2 ok2 rv => k t s2 (st.trans st2) ok2 rv⟩
theorem rs1 {H : Hp} {vs : List V} (h : Rs cl H [d] vs) : ∃ v, vs = [v] ∧ R cl H d v := by
  obtain ⟨v, t, h1, h2, h3⟩ := h
  obtain rfl : t = [] := h3
  exact ⟨v, h1, h2⟩
theorem rs2 {H : Hp} {vs : List V} (h : Rs cl H [x, y] vs) : ∃ u v, vs = [u, v] ∧ R cl H x u ∧ R cl H y v := by
  obtain ⟨u, t, h1, h2, h3⟩ := h
  obtain ⟨v, e, h4⟩ := rs1 h3
  subst e
  exact ⟨u, v, h1, h2, h4⟩
theorem Lk.sq {K : PySem.W.Frag} {H0 H : Hp} (l : Lk H0 H) {a : Addr} {vs : List V} (h : H0 a = some (.lst vs)) : SqL K H a vs := .inl (.inl (l.pl h fun q z => by cases z))
theorem Lk.st {K : PySem.W.Frag} {H0 H : Hp} (l : Lk H0 H) {a : Addr} {vs : List V} (h : H0 a = some (.tup vs)) : SqT K H a vs := .inl (.inl (l.pl h fun q z => by cases z))
theorem Lk.lst {H0 H : Hp} (l : Lk H0 H) {a : Addr} {vs : List V} (h : H0 a = some (.lst vs)) : H a = some (.lst vs) := l.pl h fun q z => by cases z
theorem Lk.tup {H0 H : Hp} (l : Lk H0 H) {a : Addr} {vs : List V} (h : H0 a = some (.tup vs)) : H a = some (.tup vs) := l.pl h fun q z => by cases z

/-- the call's side conditions: all by rfl or decide -/
structure CallSide (X : Cx) (n : Str) (e : Expr) (es : List Expr) (pos : Pos) : Prop where
  hg : Gl X n
  he : starEach (e :: es) X.env = (false, eval e X.env) :: starEach es X.env
  hpl : (backTo pos (starEach es X.env)).any (·.1) = false

/-! ### len -/
theorem rc_len {K : PySem.W.Frag} (hx : x = .tup ds ∨ x = .lst ds) : RC K cl (fun xs H Q => ∃ p ys, xs = [.ref p] ∧ (SqL K H p ys ∨ SqT K H p ys) ∧ Q (.int ys.length) H) [x] w (.int ds.length) := fun s vs ok rs Q k => by
  obtain ⟨v, rfl, rv⟩ := rs1 rs
  rcases hx with rfl | rfl
  · obtain ⟨a, us, rfl, h1, h2⟩ := rv
    refine ⟨a, us, rfl, .inr (ok.lk.st h1), ?_⟩
    rw [h2.length]
    exact k _ s (.refl s) ok rfl
  · obtain ⟨a, us, rfl, h1, h2⟩ := rv
    refine ⟨a, us, rfl, .inl (ok.lk.sq h1), ?_⟩
    rw [h2.length]
    exact k _ s (.refl s) ok rfl
theorem wp_lenT (B : Bl X.mg) (ha : WP cl X r w a (.tup ds)) (hg : Gl X "len" := by rfl) (he : starEach [a] X.env = (false, eval a X.env) :: starEach [] X.env := by rfl) (hpl : (backTo pos (starEach [] X.env)).any (·.1) = false := by rfl) : WP cl X r w (.Call (.Name "len" p) [a] [] pos) (.int ds.length) :=
  wp_call call_len_seq B.len PySem.boot_len (wa_cons ha wa_nil he) (rc_len (.inl rfl)) hg (by decide) (by decide) he hpl
theorem wp_lenL (B : Bl X.mg) (ha : WP cl X r w a (.lst ds)) (hg : Gl X "len" := by rfl) (he : starEach [a] X.env = (false, eval a X.env) :: starEach [] X.env := by rfl) (hpl : (backTo pos (starEach [] X.env)).any (·.1) = false := by rfl) : WP cl X r w (.Call (.Name "len" p) [a] [] pos) (.int ds.length) :=
  wp_call call_len_seq B.len PySem.boot_len (wa_cons ha wa_nil he) (rc_len (.inr rfl)) hg (by decide) (by decide) he hpl

/-! ### items -/
theorem Rs.atI {H : Hp} {vs : List V} {i : Int} (h : Rs cl H ds vs) (e : L2.atI ds i = some d) : ∃ v, L2.atI vs i = some v ∧ R cl H d v := by
  unfold L2.atI at e ⊢
  rw [h.length]
  cases q : ixN ds.length i with
  | none =>
    rw [q] at e
    cases e
  | some j =>
    rw [q] at e
    exact h.get e
theorem rv_ixT {K : PySem.W.Frag} {i : Int} (e : L2.atI ds i = some z) : RV K cl (rIxT K) (.tup ds) (.int i) w z := fun s u v ok r1 r2 Q k => by
  obtain ⟨a, us, rfl, h1, h2⟩ := r1
  obtain ⟨t, e1, e2⟩ := h2.atI e
  exact ⟨a, us, i, t, rfl, r2, ok.lk.st h1, e1, k t s (.refl s) ok e2⟩
theorem rv_ixL {K : PySem.W.Frag} {i : Int} (e : L2.atI ds i = some z) : RV K cl (rIxL K) (.lst ds) (.int i) w z := fun s u v ok r1 r2 Q k => by
  obtain ⟨a, us, rfl, h1, h2⟩ := r1
  obtain ⟨t, e1, e2⟩ := h2.atI e
  exact ⟨a, us, i, t, rfl, r2, ok.lk.sq h1, e1, k t s (.refl s) ok e2⟩
theorem wp_ixT {i : Int} (ha : WP cl X r w a (.tup ds)) (hb : WP cl X r w b (.int i)) (e : L2.atI ds i = some z) (hs : PlainIx b := by exact fun _ _ => rfl) : WP cl X r w (.Subscript a b pos) z := fun s σ I Q k => ⟨_, pe_ix ix_tup sE sE hs, wp_two ha hb (rv_ixT e) s σ I Q k⟩
theorem wp_ixL {i : Int} (ha : WP cl X r w a (.lst ds)) (hb : WP cl X r w b (.int i)) (e : L2.atI ds i = some z) (hs : PlainIx b := by exact fun _ _ => rfl) : WP cl X r w (.Subscript a b pos) z := fun s σ I Q k => ⟨_, pe_ix ix_list sE sE hs, wp_two ha hb (rv_ixL e) s σ I Q k⟩
theorem at_nat {α : Type} {xs : List α} {j : Nat} {z : α} (h : xs[j]? = some z) : L2.atI xs (j : Int) = some z := atI_nat h

/-! ### dicts -/
def dlook : List Int → List D → Int → Option D
  | k :: ks, d :: ds, i => if k = i then some d else dlook ks ds i
  | _, _, _ => none
theorem key_ne {i j : Int} (h : ¬ i = j) : ¬ (Sum.inl i : Key) = Sum.inl j := fun z => h (Sum.inl.inj z)
theorem dlook_val {H : Hp} {i : Int} : ∀ {ks : List Int} {ds : List D} {vs : List V}, ks.length = ds.length → Rs cl H ds vs → (match dlook ks ds i with
    | some d => ∃ v, valV (kvs ks vs) (Sum.inl i) = some v ∧ R cl H d v
    | none => valV (kvs ks vs) (Sum.inl i) = none)
  | [], [], vs, _, h => by
    obtain rfl : vs = [] := h
    rfl
  | k :: ks, d :: ds, vs, hl, ⟨v, t, h1, h2, h3⟩ => by
    subst h1
    unfold dlook
    by_cases q : k = i
    · rw [if_pos q]
      exact ⟨v, valV_pos (p := (Sum.inl k, v)) (by rw [q]), h2⟩
    · rw [if_neg q]
      have e : valV (kvs (k :: ks) (v :: t)) (Sum.inl i) = valV (kvs ks t) (Sum.inl i) := valV_neg (p := (Sum.inl k, v)) (key_ne q)
      rw [e]
      exact dlook_val (by simpa using hl) h3
  | [], _ :: _, _, hl, _ => by simp at hl
  | _ :: _, [], _, hl, _ => by simp at hl
theorem dget_of {s : Sta} {ks : List Int} {v : V} {i : Int} (l : Lk s.H0 s.H) (h : R cl s.H0 (.dic ks ds) v) : ∃ a o, v = .ref a ∧ DGet s.H a (.int i) o ∧ (match dlook ks ds i with
    | some d => ∃ u, o = some u ∧ R cl s.H0 d u
    | none => o = none) := by
  obtain ⟨a, vs, rfl, h1, h2, _, h3⟩ := h
  refine ⟨a, valV (kvs ks vs) (Sum.inl i), rfl, .inl ⟨_, Sum.inl i, l.rd h1, rfl, rfl⟩, ?_⟩
  exact dlook_val h2 h3
theorem wp_dget {k : Nat} {ks : List Int} {i : Int} (hr : Room k X.A) (ha : WP cl X r w a (.dic ks ds)) (hb : WP cl X r w b (.int i)) (e : dlook ks ds i = some z) (hs : NoSl b := by exact fun _ _ => rfl) : WP cl X r w (.Subscript a b pos) z := fun s σ I Q q =>
  ⟨_, pe_dget (hu_of hr) sE sE hs, ha s σ I _ fun u s1 st1 ok1 r1 => hb s1 σ (I.step st1 ok1) _ fun v s2 st2 ok2 r2 => by
    obtain ⟨d, o, e1, e2, e3⟩ := dget_of (i := i) ok2.lk (r1.mono st2.e0)
    rw [e] at e3
    obtain ⟨t, e4, e5⟩ := e3
    subst e4
    obtain rfl : v = .int i := r2
    exact ⟨d, t, e1, e2, q t s2 (st1.trans st2) ok2 e5⟩⟩
theorem wt_din {k : Nat} {ks : List Int} {i : Int} (hr : Room k X.A) (ha : WP cl X r w a (.int i)) (hb : WP cl X r w b (.dic ks ds)) (hm : behindInMarks .In b = false := by rfl) : WT cl X r w (.Compare a [.In] [b] pos) (dlook ks ds i).isSome := fun s σ I Q q =>
  ⟨_, pt_cmp (pc_din (hu_of hr) sE sE) hm, ha s σ I _ fun u s1 st1 ok1 r1 => hb s1 σ (I.step st1 ok1) _ fun v s2 st2 ok2 r2 => by
    obtain ⟨d, o, e1, e2, e3⟩ := dget_of (i := i) ok2.lk r2
    obtain rfl : u = .int i := r1
    refine ⟨d, o, e1, e2, _, rfl, ?_⟩
    have ho : o.isSome = (dlook ks ds i).isSome := by
      cases hd : dlook ks ds i with
      | none =>
        rw [hd] at e3
        have e3 : o = none := e3
        rw [e3]
        rfl
      | some d' =>
        rw [hd] at e3
        obtain ⟨t, e4, _⟩ := e3
        rw [e4]
        rfl
    rw [ho]
    exact q s2 (st1.trans st2) ok2⟩
theorem wt_dnotin {k : Nat} {ks : List Int} {i : Int} (hr : Room k X.A) (ha : WP cl X r w a (.int i)) (hb : WP cl X r w b (.dic ks ds)) (hm : behindInMarks .NotIn b = false := by rfl) : WT cl X r w (.Compare a [.NotIn] [b] pos) (!(dlook ks ds i).isSome) := fun s σ I Q q =>
  ⟨_, pt_cmp (pc_dnotin (hu_of hr) sE sE) hm, ha s σ I _ fun u s1 st1 ok1 r1 => hb s1 σ (I.step st1 ok1) _ fun v s2 st2 ok2 r2 => by
    obtain ⟨d, o, e1, e2, e3⟩ := dget_of (i := i) ok2.lk r2
    obtain rfl : u = .int i := r1
    refine ⟨d, o, e1, e2, _, rfl, ?_⟩
    have ho : o.isSome = (dlook ks ds i).isSome := by
      cases hd : dlook ks ds i with
      | none =>
        rw [hd] at e3
        have e3 : o = none := e3
        rw [e3]
        rfl
      | some d' =>
        rw [hd] at e3
        obtain ⟨t, e4, _⟩ := e3
        rw [e4]
        rfl
    rw [ho]
    exact q s2 (st1.trans st2) ok2⟩
theorem wp_din {k : Nat} {ks : List Int} {i : Int} (hr : Room k X.A) (ha : WP cl X r w a (.int i)) (hb : WP cl X r w b (.dic ks ds)) (hm : behindInMarks .In b = false := by rfl) : WP cl X r w (.Compare a [.In] [b] pos) (.bl (dlook ks ds i).isSome) := fun s σ I Q q =>
  ⟨_, pe_cmp (pc_din (hu_of hr) sE sE) hm, ha s σ I _ fun u s1 st1 ok1 r1 => hb s1 σ (I.step st1 ok1) _ fun v s2 st2 ok2 r2 => by
    obtain ⟨d, o, e1, e2, e3⟩ := dget_of (i := i) ok2.lk r2
    obtain rfl : u = .int i := r1
    refine ⟨d, o, e1, e2, ?_⟩
    have ho : o.isSome = (dlook ks ds i).isSome := by
      cases hd : dlook ks ds i with
      | none =>
        rw [hd] at e3
        have e3 : o = none := e3
        rw [e3]
        rfl
      | some d' =>
        rw [hd] at e3
        obtain ⟨t, e4, _⟩ := e3
        rw [e4]
        rfl
    rw [ho]
    exact q _ s2 (st1.trans st2) ok2 rfl⟩

/-! ### slices -/
def cutD (xs : List D) (lo hi : Option Int) : List D := (xs.drop (HT.sIx xs.length 0 lo)).take (HT.sIx xs.length xs.length hi - HT.sIx xs.length 0 lo)
theorem Rs.cut {H : Hp} {vs : List V} (h : Rs cl H ds vs) (lo hi : Option Int) : Rs cl H (cutD ds lo hi) (cutV vs lo hi) := by
  unfold cutD cutV
  rw [h.length]
  exact (h.drop _).take _
def WO (cl : Nat → Addr) (X : Cx) (r : List Sl) (w : List Ow) (o : Option Expr) (i : Option Int) : Prop := ∃ t, PO X o t ∧ ∀ (s : Sta) (σ : L2.St), Env X.K cl s σ r w → ∀ Q : Option Int → Hp → Prop, (∀ s', Step s s' → Ok X.K cl s' w → Q i s'.H) → t σ s.H Q
theorem wo_none : WO cl X r w none none := ⟨_, po_none, fun s σ I Q q => q s (.refl s) I.ok⟩
theorem wo_some {i : Int} (h : WP cl X r w e (.int i)) : WO cl X r w (some e) (some i) := ⟨_, po_some sE, fun s σ I Q q => h s σ I _ fun v s' st ok rv => ⟨i, rv, q s' st ok⟩⟩
theorem wp_slL {lo hi : Option Expr} {i j : Option Int} (ha : WP cl X r w a (.lst ds)) (hl : WO cl X r w lo i) (hh : WO cl X r w hi j) : WP cl X r w (.Subscript a (.Slice lo hi none p2) pos) (.lst (cutD ds i j)) := fun s σ I Q q => by
  obtain ⟨t1, p1, k1⟩ := hl
  obtain ⟨t2, p2, k2⟩ := hh
  refine ⟨_, pe_slice sl_list sE p1 p2, ha s σ I _ fun u s1 st1 ok1 r1 => k1 s1 σ (I.step st1 ok1) _ fun s2 st2 ok2 => k2 s2 σ ((I.step st1 ok1).step st2 ok2) _ fun s3 st3 ok3 => ?_⟩
  obtain ⟨b, vs, rfl, h1, h2⟩ := r1.mono (st2.trans st3).e0
  exact ⟨b, vs, rfl, ok3.lk.sq h1, fun p np => q _ (s3.add p _) ((st1.trans (st2.trans st3)).trans (.add ok3.lk np)) (ok3.add np) ⟨p, _, rfl, upd_same, (h2.cut i j).mono (Ex.new (ok3.lk.nil np))⟩⟩
theorem cutD_all {i j : Option Int} (h : HT.sIx ds.length 0 i = 0 ∧ HT.sIx ds.length ds.length j = ds.length) : cutD ds i j = ds := by
  unfold cutD
  rw [h.1, h.2, Nat.sub_zero]
  exact List.take_length
theorem wp_slT {lo hi : Option Expr} {i j : Option Int} (ha : WP cl X r w a (.tup ds)) (hl : WO cl X r w lo i) (hh : WO cl X r w hi j) : WP cl X r w (.Subscript a (.Slice lo hi none p2) pos) (.tup (cutD ds i j)) := fun s σ I Q q => by
  obtain ⟨t1, p1, k1⟩ := hl
  obtain ⟨t2, p2, k2⟩ := hh
  refine ⟨_, pe_slice sl_tupA sE p1 p2, ha s σ I _ fun u s1 st1 ok1 r1 => k1 s1 σ (I.step st1 ok1) _ fun s2 st2 ok2 => k2 s2 σ ((I.step st1 ok1).step st2 ok2) _ fun s3 st3 ok3 => ?_⟩
  obtain ⟨b, vs, rfl, h1, h2⟩ := r1.mono (st2.trans st3).e0
  refine ⟨b, vs, rfl, ok3.lk.st h1, fun hh => ?_, fun _ p np => q _ (s3.add p _) ((st1.trans (st2.trans st3)).trans (.add ok3.lk np)) (ok3.add np) ⟨p, _, rfl, upd_same, (h2.cut i j).mono (Ex.new (ok3.lk.nil np))⟩⟩
  rw [h2.length] at hh
  rw [cutD_all hh] at q
  exact q _ s3 (st1.trans (st2.trans st3)) ok3 ⟨b, vs, rfl, h1, h2⟩
theorem wp_rev {k : Nat} {p1 p3 : Pos} (ha : WP cl X r w a (.lst ds)) (hl : ds.length ≤ 100000) : WP cl X r w (.Subscript a (.Slice none none (some (.UnaryOp .USub (.Constant (.int 1) k p1) p2)) p3) pos) (.lst ds.reverse) := fun s σ I Q q =>
  ⟨_, pe_revL sE, ha s σ I _ fun u s1 st1 ok1 r1 => by
    obtain ⟨b, vs, rfl, h1, h2⟩ := r1
    first
      | exact ⟨b, vs, rfl, ok1.lk.sq h1, fun p np => q _ (s1.add p _) (st1.trans (.add ok1.lk np)) (ok1.add np) ⟨p, _, rfl, upd_same, h2.reverse.mono (Ex.new (ok1.lk.nil np))⟩⟩
      | exact ⟨b, vs, rfl, ok1.lk.sq h1, (by rw [h2.length]; exact small hl), fun p np => q _ (s1.add p _) (st1.trans (.add ok1.lk np)) (ok1.add np) ⟨p, _, rfl, upd_same, h2.reverse.mono (Ex.new (ok1.lk.nil np))⟩⟩⟩

/-! ### glued, repeated -/
theorem wp_catT {es : List D} (ha : WP cl X r w a (.tup ds)) (hb : WP cl X r w b (.tup es)) (hl : ds.length + es.length ≤ 100000) : WP cl X r w (.BinOp a .Add b pos) (.tup (ds ++ es)) := wp_bin op_catA ha hb fun s u v ok r1 r2 Q k => by
  obtain ⟨x, us, rfl, h1, h2⟩ := r1
  obtain ⟨y, vs, rfl, h3, h4⟩ := r2
  refine ⟨x, y, us, vs, rfl, rfl, ok.lk.st h1, ok.lk.st h3, by rw [h2.length, h4.length]; exact small hl, fun e => ?_, fun _ e => ?_, fun _ _ p np => k _ (s.add p _) (.add ok.lk np) (ok.add np) ⟨p, _, rfl, upd_same, (h2.append h4).mono (Ex.new (ok.lk.nil np))⟩⟩
  · subst e
    have z : ds = [] := List.length_eq_zero_iff.mp h2.length.symm
    subst z
    exact k _ s (.refl s) ok ⟨y, vs, rfl, h3, h4⟩
  · subst e
    have z : es = [] := List.length_eq_zero_iff.mp h4.length.symm
    subst z
    rw [List.append_nil] at k
    exact k _ s (.refl s) ok ⟨x, us, rfl, h1, h2⟩
theorem wp_catL {es : List D} (ha : WP cl X r w a (.lst ds)) (hb : WP cl X r w b (.lst es)) (hl : ds.length + es.length ≤ 100000) : WP cl X r w (.BinOp a .Add b pos) (.lst (ds ++ es)) := wp_bin op_cat ha hb fun s u v ok r1 r2 Q k => by
  obtain ⟨x, us, rfl, h1, h2⟩ := r1
  obtain ⟨y, vs, rfl, h3, h4⟩ := r2
  exact ⟨x, y, us, vs, rfl, rfl, ok.lk.lst h1, ok.lk.lst h3, by rw [h2.length, h4.length]; exact small hl, fun p np => k _ (s.add p _) (.add ok.lk np) (ok.add np) ⟨p, _, rfl, upd_same, (h2.append h4).mono (Ex.new (ok.lk.nil np))⟩⟩
theorem Rs.rep {H : Hp} {vs : List V} (h : Rs cl H ds vs) : ∀ n : Nat, Rs cl H (List.replicate n ds).flatten (List.replicate n vs).flatten
  | 0 => .nil
  | n + 1 => by
    rw [List.replicate_succ, List.replicate_succ, List.flatten_cons, List.flatten_cons]
    exact h.append (Rs.rep h n)
theorem wp_rep {k : Int} (ha : WP cl X r w a (.lst ds)) (hb : WP cl X r w b (.int k)) (hk : -1000 ≤ k ∧ k ≤ 1000) (hl : ds.length ≤ 10) : WP cl X r w (.BinOp a .Mult b pos) (.lst (List.replicate k.toNat ds).flatten) := wp_bin op_rep ha hb fun s u v ok r1 r2 Q q => by
  obtain ⟨x, us, rfl, h1, h2⟩ := r1
  refine ⟨x, k, us, rfl, r2, ok.lk.lst h1, by omega, by omega, ?_, fun p np => q _ (s.add p _) (.add ok.lk np) (ok.add np) ⟨p, _, rfl, upd_same, (h2.rep _).mono (Ex.new (ok.lk.nil np))⟩⟩
  rw [h2.length]
  refine small ?_
  have : k.toNat ≤ 1000 := by omega
  calc ds.length * k.toNat ≤ 10 * 1000 := Nat.mul_le_mul hl this
    _ ≤ 100000 := by decide

/-! ### in lists and tuples of ints -/
theorem inV_ints (i : Int) : ∀ ns : List Int, inV (.int i) (ns.map V.int) = decide (i ∈ ns)
  | [] => by simp [inV]
  | n :: ns => by
    have h := inV_ints i ns
    unfold inV at h ⊢
    rw [List.map_cons, List.any_cons, h]
    show ((n == i) || decide (i ∈ ns)) = decide (i ∈ n :: ns)
    rw [show decide (i ∈ n :: ns) = (decide (i = n) || decide (i ∈ ns)) by simp]
    congr 1
    by_cases q : n = i
    · rw [q]
      simp
    · rw [beq_false_of_ne q, decide_eq_false (fun z => q z.symm)]
theorem flat_ints : ∀ ns : List Int, (ns.map V.int).all flatV = true
  | [] => rfl
  | n :: ns => by
    rw [List.map_cons, List.all_cons, flat_ints ns]
    rfl
theorem rv_in {K : PySem.W.Frag} {neg : Bool} {i : Int} {ns : List Int} (hy : y = .tup (ns.map .int) ∨ y = .lst (ns.map .int)) : RV K cl (rIn K neg) (.int i) y w (.bl (if neg then !decide (i ∈ ns) else decide (i ∈ ns))) := fun s u v ok r1 r2 Q k => by
  obtain rfl : u = .int i := r1
  rcases hy with rfl | rfl
  · obtain ⟨x, us, rfl, h1, h2⟩ := r2
    obtain rfl := h2.ints_of
    refine ⟨x, _, rfl, .inr (ok.lk.st h1), rfl, flat_ints ns, ?_⟩
    rw [inV_ints]
    exact k _ s (.refl s) ok rfl
  · obtain ⟨x, us, rfl, h1, h2⟩ := r2
    obtain rfl := h2.ints_of
    refine ⟨x, _, rfl, .inl (ok.lk.sq h1), rfl, flat_ints ns, ?_⟩
    rw [inV_ints]
    exact k _ s (.refl s) ok rfl
theorem wt_inT {i : Int} {ns : List Int} (ha : WP cl X r w a (.int i)) (hb : WP cl X r w b (.tup (ns.map .int))) (hm : behindInMarks .In b = false := by rfl) : WT cl X r w (.Compare a [.In] [b] pos) (decide (i ∈ ns)) := wt_cmp op_in_seq ha hb (rv_in (.inl rfl)) hm
theorem wt_inL {i : Int} {ns : List Int} (ha : WP cl X r w a (.int i)) (hb : WP cl X r w b (.lst (ns.map .int))) (hm : behindInMarks .In b = false := by rfl) : WT cl X r w (.Compare a [.In] [b] pos) (decide (i ∈ ns)) := wt_cmp op_in_seq ha hb (rv_in (.inr rfl)) hm
theorem wt_niT {i : Int} {ns : List Int} (ha : WP cl X r w a (.int i)) (hb : WP cl X r w b (.tup (ns.map .int))) (hm : behindInMarks .NotIn b = false := by rfl) : WT cl X r w (.Compare a [.NotIn] [b] pos) (!decide (i ∈ ns)) := wt_cmp op_notIn_seq ha hb (rv_in (neg := true) (.inl rfl)) hm
theorem wt_niL {i : Int} {ns : List Int} (ha : WP cl X r w a (.int i)) (hb : WP cl X r w b (.lst (ns.map .int))) (hm : behindInMarks .NotIn b = false := by rfl) : WT cl X r w (.Compare a [.NotIn] [b] pos) (!decide (i ∈ ns)) := wt_cmp op_notIn_seq ha hb (rv_in (neg := true) (.inr rfl)) hm

/-! ### attributes -/
theorem zip_look {H : Hp} {f : Str} : ∀ {fs : List Str} {ds : List D} {vs : List V}, Rs cl H ds vs → (fs.zip ds).lookup f = some d → ∃ v, (fs.zip vs).lookup f = some v ∧ R cl H d v
  | [], _, _, _, e => by simp [List.lookup] at e
  | _ :: _, [], _, _, e => by simp [List.lookup] at e
  | g :: fs, x :: ds, _, ⟨v, t, h1, h2, h3⟩, e => by
    subst h1
    rw [List.zip_cons_cons] at e ⊢
    rw [List.lookup_cons] at e ⊢
    cases q : (f == g) with
    | true =>
      rw [q] at e
      have e : some x = some d := e
      cases e
      exact ⟨v, rfl, h2⟩
    | false =>
      rw [q] at e
      exact zip_look h3 e
theorem wp_fld {n : Nat} {fs : List Str} {f : Str} (C : Cls X.K (cl n)) (na : NoAttr X.K (cl n) f) (ha : WP cl X r w a (.obj n fs ds)) (e : (fs.zip ds).lookup f = some d) (hb : attributeBase a f X.env (eval a X.env) = eval a X.env := by rfl) : WP cl X r w (.Attribute a f pos) d := fun s σ I Q q =>
  ⟨_, pe_fld sE hb, ha s σ I _ fun u s1 st1 ok1 r1 => by
    obtain ⟨x, dx, vs, rfl, h1, h2, h3⟩ := r1
    obtain ⟨v, e1, e2⟩ := zip_look h3 e
    exact ⟨x, cl n, dx, _, v, rfl, ok1.lk.pl h1 (fun q z => by cases z), C, na, e1, q v s1 st1 ok1 e2⟩⟩

/-! ### tuple(..), list(..), sorted ints, any, all, min, sum -/
theorem wp_tupleL (B : Bl X.mg) (ha : WP cl X r w a (.lst ds)) (hg : Gl X "tuple" := by rfl) (he : starEach [a] X.env = (false, eval a X.env) :: starEach [] X.env := by rfl) (hpl : (backTo pos (starEach [] X.env)).any (·.1) = false := by rfl) : WP cl X r w (.Call (.Name "tuple" p) [a] [] pos) (.tup ds) :=
  wp_callTy call_tuple_of B.tuple (by decide +kernel) (wa_cons ha wa_nil he) (fun s vs ok rs Q k => by
    obtain ⟨v, rfl, rv⟩ := rs1 rs
    obtain ⟨a, us, rfl, h1, h2⟩ := rv
    exact ⟨a, us, rfl, .inl ⟨ok.lk.sq h1, fun p np => k _ (s.add p _) (.add ok.lk np) (ok.add np) ⟨p, _, rfl, upd_same, h2.mono (Ex.new (ok.lk.nil np))⟩⟩⟩) hg (by decide) (by decide) he hpl
theorem wp_listL (B : Bl X.mg) (ha : WP cl X r w a (.lst ds)) (hg : Gl X "list" := by rfl) (he : starEach [a] X.env = (false, eval a X.env) :: starEach [] X.env := by rfl) (hpl : (backTo pos (starEach [] X.env)).any (·.1) = false := by rfl) : WP cl X r w (.Call (.Name "list" p) [a] [] pos) (.lst ds) :=
  wp_callTy call_list_of B.list (by decide +kernel) (wa_cons ha wa_nil he) (fun s vs ok rs Q k => by
    obtain ⟨v, rfl, rv⟩ := rs1 rs
    obtain ⟨a, us, rfl, h1, h2⟩ := rv
    exact ⟨a, us, rfl, .inl (ok.lk.sq h1), fun p np => k _ (s.add p _) (.add ok.lk np) (ok.add np) ⟨p, _, rfl, upd_same, h2.mono (Ex.new (ok.lk.nil np))⟩⟩) hg (by decide) (by decide) he hpl
theorem wp_dictD (B : Bl X.mg) {ks : List Int} (ha : WP cl X r w a (.dic ks ds)) (hg : Gl X "dict" := by rfl) (he : starEach [a] X.env = (false, eval a X.env) :: starEach [] X.env := by rfl) (hpl : (backTo pos (starEach [] X.env)).any (·.1) = false := by rfl) : WP cl X r w (.Call (.Name "dict" p) [a] [] pos) (.dic ks ds) :=
  wp_callTy call_dictD B.dict (by decide +kernel) (wa_cons ha wa_nil he) (fun s vs ok rs Q k => by
    obtain ⟨v, rfl, rv⟩ := rs1 rs
    obtain ⟨a, us, rfl, h1, h4, h5, h2⟩ := rv
    exact ⟨a, _, rfl, ok.lk.rd h1, fun p np => k _ (s.add p _) (.add ok.lk np) (ok.add np) ⟨p, us, rfl, upd_same, h4, h5, h2.mono (Ex.new (ok.lk.nil np))⟩⟩) hg (by decide) (by decide) he hpl
theorem wp_all (B : Bl X.mg) {bs : List Bool} (hc : X.calm = true) (ha : WP cl X r w a (.lst (bs.map .bl))) (hg : Gl X "all" := by rfl) (he : starEach [a] X.env = (false, eval a X.env) :: starEach [] X.env := by rfl) (hpl : (backTo pos (starEach [] X.env)).any (·.1) = false := by rfl) : WP cl X r w (.Call (.Name "all" p) [a] [] pos) (.bl (bs.all id)) :=
  wp_call (cr_all hc) B.all (by decide +kernel) (wa_cons ha wa_nil he) (fun s vs ok rs Q k => by
    obtain ⟨v, rfl, rv⟩ := rs1 rs
    obtain ⟨a, us, rfl, h1, h2⟩ := rv
    obtain rfl := h2.bls_of
    exact ⟨a, bs, rfl, ok.lk.sq h1, k _ s (.refl s) ok rfl⟩) hg (by decide) (by decide) he hpl
theorem wp_any (B : Bl X.mg) {bs : List Bool} (hc : X.calm = true) (ha : WP cl X r w a (.lst (bs.map .bl))) (hg : Gl X "any" := by rfl) (he : starEach [a] X.env = (false, eval a X.env) :: starEach [] X.env := by rfl) (hpl : (backTo pos (starEach [] X.env)).any (·.1) = false := by rfl) : WP cl X r w (.Call (.Name "any" p) [a] [] pos) (.bl (bs.any id)) :=
  wp_call (cr_any hc) B.any (by decide +kernel) (wa_cons ha wa_nil he) (fun s vs ok rs Q k => by
    obtain ⟨v, rfl, rv⟩ := rs1 rs
    obtain ⟨a, us, rfl, h1, h2⟩ := rv
    obtain rfl := h2.bls_of
    exact ⟨a, bs, rfl, ok.lk.sq h1, k _ s (.refl s) ok rfl⟩) hg (by decide) (by decide) he hpl
theorem wp_minL (B : Bl X.mg) {ns : List Int} {m : Int} (hc : X.calm = true) (ha : WP cl X r w a (.lst (ns.map .int))) (h1 : m ∈ ns) (h2 : ∀ y ∈ ns, m ≤ y) (hg : Gl X "min" := by rfl) (he : starEach [a] X.env = (false, eval a X.env) :: starEach [] X.env := by rfl) (hpl : (backTo pos (starEach [] X.env)).any (·.1) = false := by rfl) : WP cl X r w (.Call (.Name "min" p) [a] [] pos) (.int m) :=
  wp_call (cr_min hc) B.min (by decide +kernel) (wa_cons ha wa_nil he) (fun s vs ok rs Q k => by
    obtain ⟨v, rfl, rv⟩ := rs1 rs
    obtain ⟨a, us, rfl, g1, g2⟩ := rv
    obtain rfl := g2.ints_of
    refine ⟨a, ns, rfl, ok.lk.sq g1, List.length_pos_of_mem h1, fun m' i1 i2 => ?_⟩
    have e : m' = m := Int.le_antisymm (i2 m h1) (h2 m' i1)
    rw [e]
    exact k _ s (.refl s) ok rfl) hg (by decide) (by decide) he hpl
theorem wp_sumL (B : Bl X.mg) {ns : List Int} (hc : X.calm = true) (ha : WP cl X r w a (.lst (ns.map .int))) (hg : Gl X "sum" := by rfl) (he : starEach [a] X.env = (false, eval a X.env) :: starEach [] X.env := by rfl) (hpl : (backTo pos (starEach [] X.env)).any (·.1) = false := by rfl) : WP cl X r w (.Call (.Name "sum" p) [a] [] pos) (.int ns.sum) :=
  wp_call (cr_sum hc) B.sum (by decide +kernel) (wa_cons ha wa_nil he) (fun s vs ok rs Q k => by
    obtain ⟨v, rfl, rv⟩ := rs1 rs
    obtain ⟨a, us, rfl, g1, g2⟩ := rv
    obtain rfl := g2.ints_of
    exact ⟨a, ns, rfl, ok.lk.sq g1, k _ s (.refl s) ok rfl⟩) hg (by decide) (by decide) he hpl
theorem wp_min2 (B : Bl X.mg) {i j : Int} (hc : X.calm = true) (ha : WP cl X r w a (.int i)) (hb : WP cl X r w b (.int j)) (hg : Gl X "min" := by rfl) (he : starEach [a, b] X.env = (false, eval a X.env) :: starEach [b] X.env := by rfl) (he2 : starEach [b] X.env = (false, eval b X.env) :: starEach [] X.env := by rfl) (hpl : (backTo pos (starEach [b] X.env)).any (·.1) = false := by rfl) : WP cl X r w (.Call (.Name "min" p) [a, b] [] pos) (.int (if j < i then j else i)) :=
  wp_call (call_min2 hc) B.min (by decide +kernel) (wa_cons ha (wa_cons hb wa_nil he2) he) (fun s vs ok rs Q k => by
    obtain ⟨u, v, rfl, r1, r2⟩ := rs2 rs
    obtain rfl : u = .int i := r1
    obtain rfl : v = .int j := r2
    exact ⟨i, j, rfl, k _ s (.refl s) ok rfl⟩) hg (by decide) (by decide) he hpl
theorem wp_abs (B : Bl X.mg) {i : Int} (ha : WP cl X r w a (.int i)) (hg : Gl X "abs" := by rfl) (he : starEach [a] X.env = (false, eval a X.env) :: starEach [] X.env := by rfl) (hpl : (backTo pos (starEach [] X.env)).any (·.1) = false := by rfl) : WP cl X r w (.Call (.Name "abs" p) [a] [] pos) (.int (if i < 0 then -i else i)) :=
  wp_call call_abs B.abs (by decide +kernel) (wa_cons ha wa_nil he) (fun s vs ok rs Q k => by
    obtain ⟨v, rfl, rv⟩ := rs1 rs
    exact ⟨i, by rw [show v = V.int i from rv], k _ s (.refl s) ok rfl⟩) hg (by decide) (by decide) he hpl
theorem wp_toint (B : Bl X.mg) {i : Int} (ha : WP cl X r w a (.int i)) (hg : Gl X "int" := by rfl) (he : starEach [a] X.env = (false, eval a X.env) :: starEach [] X.env := by rfl) (hpl : (backTo pos (starEach [] X.env)).any (·.1) = false := by rfl) : WP cl X r w (.Call (.Name "int" p) [a] [] pos) (.int i) :=
  wp_callTy call_int1 B.int (by decide +kernel) (wa_cons ha wa_nil he) (fun s vs ok rs Q k => by
    obtain ⟨v, rfl, rv⟩ := rs1 rs
    exact .inl ⟨i, by rw [show v = V.int i from rv], k _ s (.refl s) ok rfl⟩) hg (by decide) (by decide) he hpl
/-- any two sorted arrangements of ints are one -/
theorem sorted_one {xs ys : List Int} (h : xs.Perm ys) (a : xs.Pairwise (· ≤ ·)) (b : ys.Pairwise (· ≤ ·)) : xs = ys :=
  h.eq_of_pairwise (fun _ _ _ _ h1 h2 => Int.le_antisymm h1 h2) a b
theorem wp_sortedI (B : Bl X.mg) {ns ms : List Int} (ha : WP cl X r w a (.lst (ns.map .int))) (hp : ms.Perm ns) (hs : ms.Pairwise (· ≤ ·)) (hg : Gl X "sorted" := by rfl) (he : starEach [a] X.env = (false, eval a X.env) :: starEach [] X.env := by rfl) (hpl : (backTo pos (starEach [] X.env)).any (·.1) = false := by rfl) : WP cl X r w (.Call (.Name "sorted" p) [a] [] pos) (.lst (ms.map .int)) :=
  wp_call cr_sortedI B.sorted (by decide +kernel) (wa_cons ha wa_nil he) (fun s vs ok rs Q k => by
    obtain ⟨v, rfl, rv⟩ := rs1 rs
    obtain ⟨a, us, rfl, g1, g2⟩ := rv
    obtain rfl := g2.ints_of
    refine ⟨a, ns, rfl, ok.lk.sq g1, fun ns' p q1 q2 np => ?_⟩
    have e : ns' = ms := sorted_one (q1.trans hp.symm) q2 hs
    subst e
    exact k _ (s.add p _) (.add ok.lk np) (ok.add np) ⟨p, _, rfl, upd_same, Rs.ints _⟩) hg (by decide) (by decide) he hpl
theorem kvs_keys : ∀ {ks : List Int} {vs : List V}, ks.length = vs.length → (kvs ks vs).map (·.1) = ks.map Sum.inl
  | [], [], _ => rfl
  | k :: ks, v :: vs, h => by
    show Sum.inl k :: (kvs ks vs).map (·.1) = _
    rw [kvs_keys (by simpa using h)]
    rfl
  | [], _ :: _, h => by simp at h
  | _ :: _, [], h => by simp at h
theorem wp_sortedD (B : Bl X.mg) {ks ms : List Int} (hc : X.calm = true) (ha : WP cl X r w a (.dic ks ds)) (hp : ms.Perm ks) (hs : ms.Pairwise (· ≤ ·)) (hl : ks.length < 64) (hg : Gl X "sorted" := by rfl) (he : starEach [a] X.env = (false, eval a X.env) :: starEach [] X.env := by rfl) (hpl : (backTo pos (starEach [] X.env)).any (·.1) = false := by rfl) : WP cl X r w (.Call (.Name "sorted" p) [a] [] pos) (.lst (ms.map .int)) :=
  wp_call (call_sortedDI hc) B.sorted (by decide +kernel) (wa_cons ha wa_nil he) (fun s vs ok rs Q k => by
    obtain ⟨v, rfl, rv⟩ := rs1 rs
    obtain ⟨a, us, rfl, g1, g4, _, g2⟩ := rv
    refine ⟨a, _, ks, rfl, ok.lk.rd g1, kvs_keys (by rw [g2.length]; exact g4), hl, fun ns' p q1 q2 np => ?_⟩
    have e : ns' = ms := sorted_one (q1.trans hp.symm) q2 hs
    subst e
    exact k _ (s.add p _) (.add ok.lk np) (ok.add np) ⟨p, _, rfl, upd_same, Rs.ints _⟩) hg (by decide) (by decide) he hpl
end
end FV
set_option Elab.async false
set_option linter.all false
set_option maxRecDepth 100000
set_option maxHeartbeats 2000000
/-! The data layer, part D: what is walked, targets, comprehensions. -/
namespace FV
open PySem PySem.Spec PyProof.Rows L2

/-! ### iterators over data -/
theorem itd_list {K : PySem.W.Frag} {cl : Nat → Addr} {s0 : Sta} {a : Addr} {vs : List V} {ds : List D} (h : s0.H0 a = some (.lst vs)) (hr : Rs cl s0.H0 ds vs) : ItD K cl (Itl K a) s0 ds where
  item i x s st l e := by
    have h1 := l.sq (K := K) (st.e0 _ _ h)
    obtain ⟨v, e1, e2⟩ := (hr.mono st.e0).get e
    refine ⟨⟨vs, v, h1, e1⟩, fun u H' y => ?_⟩
    obtain ⟨rfl, y⟩ := y
    have e3 := y vs h1
    rw [e1] at e3
    cases e3
    exact ⟨s, rfl, .refl s, fun _ h => h, e2⟩
  stop s st l := ⟨vs, l.sq (st.e0 _ _ h), by rw [hr.length]; exact Nat.le_refl _⟩
theorem itd_tup {K : PySem.W.Frag} {cl : Nat → Addr} {s0 : Sta} {a : Addr} {vs : List V} {ds : List D} (h : s0.H0 a = some (.tup vs)) (hr : Rs cl s0.H0 ds vs) : ItD K cl (Itt K a) s0 ds where
  item i x s st l e := by
    have h1 := l.st (K := K) (st.e0 _ _ h)
    obtain ⟨v, e1, e2⟩ := (hr.mono st.e0).get e
    refine ⟨⟨vs, v, h1, e1⟩, fun u H' y => ?_⟩
    obtain ⟨rfl, y⟩ := y
    have e3 := y vs h1
    rw [e1] at e3
    cases e3
    exact ⟨s, rfl, .refl s, fun _ h => h, e2⟩
  stop s st l := ⟨vs, l.st (st.e0 _ _ h), by rw [hr.length]; exact Nat.le_refl _⟩
/-- lo, lo + 1, .. -/
def rng (lo : Int) (n : Nat) : List D := (List.range n).map fun i => D.int (lo + (i : Nat))
theorem itd_rng {K : PySem.W.Frag} {cl : Nat → Addr} {s0 : Sta} {lo : Int} {n : Nat} : ItD K cl (Itr lo n) s0 (rng lo n) where
  item i x s st l e := by
    unfold rng at e
    rw [List.getElem?_map] at e
    cases q : (List.range n)[i]? with
    | none =>
      rw [q] at e
      cases e
    | some j =>
      rw [q] at e
      have e : some (D.int (lo + (j : Nat))) = some x := e
      cases e
      obtain ⟨h1, h2⟩ := List.getElem?_eq_some_iff.mp q
      rw [List.getElem_range] at h2
      subst h2
      rw [List.length_range] at h1
      refine ⟨h1, fun u H' y => ?_⟩
      obtain ⟨rfl, rfl⟩ := y
      exact ⟨s, rfl, .refl s, fun _ h => h, rfl⟩
  stop s st l := by
    show n ≤ (rng lo n).length
    unfold rng
    rw [List.length_map, List.length_range]
    exact Nat.le_refl _
theorem itd_enum {K : PySem.W.Frag} {cl : Nat → Addr} {s0 : Sta} {a : Addr} {vs : List V} {ds : List D} (h : s0.H0 a = some (.lst vs)) (hr : Rs cl s0.H0 ds vs) : ItD K cl (Ite K a) s0 (ds.zipIdx.map fun p => .tup [.int (p.2 : Nat), p.1]) where
  item i x s st l e := by
    have h1 := l.sq (K := K) (st.e0 _ _ h)
    rw [List.getElem?_map, List.getElem?_zipIdx] at e
    cases q : ds[i]? with
    | none =>
      rw [q] at e
      cases e
    | some d =>
      rw [q] at e
      have e : some (D.tup [.int ((0 + i : Nat) : Int), d]) = some x := e
      rw [Nat.zero_add] at e
      cases e
      obtain ⟨v, e1, e2⟩ := (hr.mono st.e0).get q
      refine ⟨⟨vs, v, h1, e1⟩, fun u H' y => ?_⟩
      obtain ⟨T, z, rfl, nT, rfl, y⟩ := y
      have e3 := y vs h1
      rw [e1] at e3
      cases e3
      exact ⟨s.add T _, rfl, .add l nT, fun _ k => k.add nT, T, _, rfl, upd_same, .cons rfl (.one (e2.mono (Ex.new (l.nil nT))))⟩
  stop s st l := ⟨vs, l.sq (st.e0 _ _ h), by rw [hr.length, List.length_map, List.length_zipIdx]; exact Nat.le_refl _⟩
theorem itd_zipT {K : PySem.W.Frag} {cl : Nat → Addr} {s0 : Sta} {a b : Addr} {vs us : List V} {ds es : List D} (h : s0.H0 a = some (.tup vs)) (hr : Rs cl s0.H0 ds vs) (h' : s0.H0 b = some (.tup us)) (hr' : Rs cl s0.H0 es us) : ItD K cl (RZ.ItzT K a b) s0 ((ds.zip es).map fun p => .tup [p.1, p.2]) where
  item i x s st l e := by
    have h1 := l.st (K := K) (st.e0 _ _ h)
    have h2 := l.st (K := K) (st.e0 _ _ h')
    rw [List.getElem?_map] at e
    cases q : (ds.zip es)[i]? with
    | none =>
      rw [q] at e
      cases e
    | some p =>
      rw [q] at e
      have e : some (D.tup [p.1, p.2]) = some x := e
      cases e
      obtain ⟨q1, q2⟩ := List.getElem?_zip_eq_some.mp q
      obtain ⟨v, e1, e2⟩ := (hr.mono st.e0).get q1
      obtain ⟨v', e1', e2'⟩ := (hr'.mono st.e0).get q2
      refine ⟨⟨vs, us, v, v', h1, h2, e1, e1'⟩, fun u H' y => ?_⟩
      obtain ⟨T, z, z', rfl, nT, rfl, y1, y2⟩ := y
      have e3 := y1 vs h1
      rw [e1] at e3
      cases e3
      have e4 := y2 us h2
      rw [e1'] at e4
      cases e4
      exact ⟨s.add T _, rfl, .add l nT, fun _ k => k.add nT, T, _, rfl, upd_same, .cons (e2.mono (Ex.new (l.nil nT))) (.one (e2'.mono (Ex.new (l.nil nT))))⟩
  stop s st l := ⟨vs, us, l.st (st.e0 _ _ h), l.st (st.e0 _ _ h'), by rw [hr.length, hr'.length, List.length_map, List.length_zip]; omega⟩
section
variable {cl : Nat → Addr} {X : Cx} {r : List Sl} {w : List Ow} {e a b c tg : Expr} {d x y z : D} {pos p p2 : Pos} {n : Str} {es : List Expr} {ds : List D}
theorem wi_L (h : WP cl X r w a (.lst ds)) : WI cl X r w tg a ds := fun s σ I Q k => ⟨_, pi_list sE, h s σ I _ fun v s1 st ok rv => by
  obtain ⟨p, vs, rfl, h1, h2⟩ := rv
  exact ⟨p, rfl, ⟨vs, ok.lk.sq h1⟩, k _ s1 st ok (itd_list h1 h2)⟩⟩
theorem wi_T (h : WP cl X r w a (.tup ds)) : WI cl X r w tg a ds := fun s σ I Q k => ⟨_, pi_tup sE, h s σ I _ fun v s1 st ok rv => by
  obtain ⟨p, vs, rfl, h1, h2⟩ := rv
  exact ⟨p, rfl, ⟨vs, ok.lk.st h1⟩, k _ s1 st ok (itd_tup h1 h2)⟩⟩
theorem wi_r1 (B : Bl X.mg) {i : Int} (h : WP cl X r w a (.int i)) (hi : -100000 ≤ i ∧ i ≤ 100000) (hg : Gl X "range" := by rfl) (hs : starEach [a] X.env = [(false, eval a X.env)] := by rfl) : WI cl X r w tg (.Call (.Name "range" p) [a] [] pos) (rng 0 i.toNat) := fun s σ I Q k =>
  ⟨_, pi_range1 hg B.range sA hs, (wa_cons h wa_nil hs) s σ I _ fun vs s1 st ok rs => by
    obtain ⟨v, rfl, rv⟩ := rs1 rs
    exact ⟨i, by rw [show v = V.int i from rv], by omega, by omega, k _ s1 st ok itd_rng⟩⟩
theorem wi_r2 (B : Bl X.mg) {i j : Int} (h : WP cl X r w a (.int i)) (h' : WP cl X r w b (.int j)) (hi : (-100000 ≤ i ∧ i ≤ 100000) ∧ -100000 ≤ j ∧ j ≤ 100000) (hg : Gl X "range" := by rfl) (hs : starEach [a, b] X.env = [(false, eval a X.env), (false, eval b X.env)] := by rfl) (hs2 : starEach [b] X.env = [(false, eval b X.env)] := by rfl) :
    WI cl X r w tg (.Call (.Name "range" p) [a, b] [] pos) (rng i (j - i).toNat) := fun s σ I Q k =>
  ⟨_, pi_range2 hg B.range sA hs hs2, (wa_cons h (wa_cons h' wa_nil hs2) (by rw [hs, hs2])) s σ I _ fun vs s1 st ok rs => by
    obtain ⟨u, v, rfl, r1, r2⟩ := rs2 rs
    exact ⟨i, j, by rw [show u = V.int i from r1, show v = V.int j from r2], ⟨by omega, by omega, by omega, by omega⟩, k _ s1 st ok itd_rng⟩⟩
theorem wi_enum (B : Bl X.mg) {elts : List Expr} {kk : Nat} {tpos : Pos} (h : WP cl X r w a (.lst ds)) (hg : Gl X "enumerate" := by rfl) (hs : starEach [a] X.env = [(false, eval a X.env)] := by rfl) : WI cl X r w (.Tuple elts kk tpos) (.Call (.Name "enumerate" p) [a] [] pos) (ds.zipIdx.map fun p => .tup [.int (p.2 : Nat), p.1]) := fun s σ I Q k =>
  ⟨_, pi_enum hg B.enumerate sA hs, (wa_cons h wa_nil hs) s σ I _ fun vs s1 st ok rs => by
    obtain ⟨v, rfl, rv⟩ := rs1 rs
    obtain ⟨p, us, rfl, h1, h2⟩ := rv
    exact ⟨p, us, rfl, ok.lk.sq h1, k _ s1 st ok (itd_enum h1 h2)⟩⟩
theorem wi_zipT (B : Bl X.mg) {elts : List Expr} {kk : Nat} {tpos : Pos} {es : List D} (h : WP cl X r w a (.tup ds)) (h' : WP cl X r w b (.tup es)) (hg : Gl X "zip" := by rfl) (hs : starEach [a, b] X.env = (false, eval a X.env) :: starEach [b] X.env := by rfl) (hs2 : starEach [b] X.env = (false, eval b X.env) :: starEach [] X.env := by rfl) (hpl : (backTo pos (starEach [b] X.env)).any (·.1) = false := by rfl) :
    WI cl X r w (.Tuple elts kk tpos) (.Call (.Name "zip" p) [a, b] [] pos) ((ds.zip es).map fun p => .tup [p.1, p.2]) := fun s σ I Q k =>
  ⟨_, RZ.pi_zipA hg B.zip sA hs hpl, (wa_cons h (wa_cons h' wa_nil hs2) hs) s σ I _ fun vs s1 st ok rs => by
    obtain ⟨u, v, rfl, r1, r2⟩ := rs2 rs
    obtain ⟨p, us, rfl, h1, h2⟩ := r1
    obtain ⟨q, vs, rfl, h3, h4⟩ := r2
    exact ⟨p, q, us, vs, rfl, .inr ⟨ok.lk.st h1, ok.lk.st h3, k _ s1 st ok (itd_zipT h1 h2 h3 h4)⟩⟩⟩

/-! ### targets -/
theorem wg_n (i : Nat) {x : Str} {d : D} (hN : X.N.Nodup) (hi : X.N[i]? = some x := by rfl) (hx : Loc X.env.scope x := by first | exact .inl rfl | exact .inr rfl) (hf : X.fn x = true ∨ X.env.scope.names.lookup x = some .local := by first | exact .inl rfl | exact .inr rfl) : WG cl X r w (.Name x pos) d [i] (r.set i (.d d)) := fun s σ v I rv Q k =>
  ⟨_, pg_name hN hi hx hf, k _ (I.sl.set i ⟨v, rfl, rv⟩) (List.length_set ..) fun j hj => List.getElem?_set_ne (fun e => hj (by rw [← e]; simp))⟩
/-- a, b = .. -/
theorem wg_two {x y : D} {is js : List Nat} {r1 r2 : List Sl} {t1 t2 : Expr} {kk : Nat} (hc : X.calm = true) (h1 : WG cl X r w t1 x is r1) (h2 : WG cl X r1 w t2 y js r2) (hn : (assignEach [t1, t2] X.env).length = 2 := by rfl) (hst : (assignEach [t1, t2] X.env).findIdx? (·.1) = none := by rfl)
    (e1 : (assignEach [t1, t2] X.env).map (·.2) = assign t1 X.env :: (assignEach [t2] X.env).map (·.2) := by rfl) (e2 : (assignEach [t2] X.env).map (·.2) = assign t2 X.env :: (assignEach [] X.env).map (·.2) := by rfl) : WG cl X r w (.Tuple [t1, t2] kk pos) (.tup [x, y]) (is ++ js) r2 := fun s σ v I rv Q k => by
  obtain ⟨a, vs, rfl, g1, g2⟩ := rv
  obtain ⟨u, v, rfl, q1, q2⟩ := rs2 g2
  refine ⟨_, pg_tup (n := 2) hc (pgs_cons sG (pgs_cons sG pgs_nil e2) e1) hn hst, a, _, rfl, I.ok.lk.st g1, rfl, u, _, rfl, h1 s σ u I q1 _ fun σ1 k1 l1 c1 => ⟨v, _, rfl, h2 s σ1 v ⟨I.ok, k1⟩ q2 _ fun σ2 k2 l2 c2 => ⟨rfl, k σ2 k2 (l2.trans l1) fun j hj => ?_⟩⟩⟩
  rw [List.mem_append, not_or] at hj
  exact (c2 j hj.2).trans (c1 j hj.1)

/-! ### tests of a comprehension -/
theorem wts_nil : WTs cl X r w [] true := fun s σ I Q k => ⟨_, pts_nil, k s (.refl s) I.ok⟩
theorem wts_one {t : Bool} (h : WT cl X r w c t) : WTs cl X r w [c] t := fun s σ I Q k => ⟨_, pts_one sT, h s σ I Q k⟩

/-! ### the block's slots -/
def wipeR (r : List Sl) : List Nat → List Sl
  | [] => r
  | v :: vs => (wipeR r vs).set v .u
theorem wipe_get (σ : L2.St) (j : Nat) : ∀ vs : List Nat, (wipe σ vs)[j]? = if j ∈ vs ∧ j < σ.length then some none else σ[j]?
  | [] => by
    show σ[j]? = _
    simp
  | v :: vs => by
    show ((wipe σ vs).set v none)[j]? = _
    rw [List.getElem?_set, wipe_length, wipe_get σ j vs]
    by_cases h : v = j
    · subst h
      by_cases q : v < σ.length
      · rw [if_pos rfl, if_pos q, if_pos ⟨by simp, q⟩]
      · rw [if_pos rfl, if_neg q, if_neg (fun z => q z.2)]
        exact (List.getElem?_eq_none (by omega)).symm
    · rw [if_neg h]
      by_cases q : j ∈ vs ∧ j < σ.length
      · rw [if_pos q, if_pos ⟨List.mem_cons_of_mem _ q.1, q.2⟩]
      · rw [if_neg q, if_neg (fun z => q ⟨(List.mem_cons.mp z.1).elim (fun z => absurd z.symm h) id, z.2⟩)]
theorem wipe_same {σ τ : L2.St} {vs is : List Nat} (hl : τ.length = (wipe σ vs).length) (hs : ∀ i ∈ is, i ∈ vs) (h : ∀ j, j ∉ is → τ[j]? = (wipe σ vs)[j]?) : wipe τ vs = wipe σ vs := by
  rw [wipe_length] at hl
  apply List.ext_getElem?
  intro j
  rw [wipe_get, wipe_get, hl]
  by_cases q : j ∈ vs ∧ j < σ.length
  · rw [if_pos q, if_pos q]
  · rw [if_neg q, if_neg q]
    by_cases m : j ∈ is
    · have hv := hs j m
      have hj : ¬ j < σ.length := fun z => q ⟨hv, z⟩
      rw [List.getElem?_eq_none (by omega), List.getElem?_eq_none (by omega)]
    · rw [h j m, wipe_get, if_neg q]
theorem Rvs.wipe {cl : Nat → Addr} {s : Sta} {r : List Sl} {σ : L2.St} (h : Rvs cl s r σ) : ∀ vs : List Nat, Rvs cl s (wipeR r vs) (L2.wipe σ vs)
  | [] => h
  | v :: vs => (Rvs.wipe h vs).set v trivial

/-! ### comprehensions -/
section
variable (X) (scope : Scope)
def uG (tg : Expr) : TG := fun v σ H Q => ∀ (s : Shared) (H' : Hp) (C : Addr) (cl : List (Str × Addr)) (fp : List Addr), tG (X.blk s H' scope (compEnvC scope cl C X.env) fp) tg v σ H Q
def uTs (cs : List Expr) : TT := fun σ H Q => ∀ (s : Shared) (H' : Hp) (C : Addr) (cl : List (Str × Addr)) (fp : List Addr), tTs (X.blk s H' scope (compEnvC scope cl C X.env) fp) cs σ H Q
def uE (e : Expr) : TE := fun σ H Q => ∀ (s : Shared) (H' : Hp) (C : Addr) (cl : List (Str × Addr)) (fp : List Addr), tE (X.blk s H' scope (compEnvC scope cl C X.env) fp) e σ H Q
def uI (tg it : Expr) : TI := fun σ H Q => ∀ (s : Shared) (H' : Hp) (C : Addr) (cl : List (Str × Addr)) (fp : List Addr), tIr (X.blk s H' scope (compEnvC scope cl C X.env) fp) tg it σ H Q
end
theorem suG {scope : Scope} {tg : Expr} (s : Shared) (H : Hp) (C : Addr) (cl : List (Str × Addr)) (fp : List Addr) : PG (X.blk s H scope (compEnvC scope cl C X.env) fp) tg (uG X scope tg) := ⟨fun pins s' σ H' v u Q I r h => sG.run pins s' σ H' v u Q I r (h s H C cl fp)⟩
theorem suTs {scope : Scope} {cs : List Expr} (s : Shared) (H : Hp) (C : Addr) (cl : List (Str × Addr)) (fp : List Addr) : PTs (X.blk s H scope (compEnvC scope cl C X.env) fp) cs (uTs X scope cs) := ⟨fun pins s' σ H' Q I h => sTs.run pins s' σ H' Q I (h s H C cl fp)⟩
theorem suE {scope : Scope} {e : Expr} (s : Shared) (H : Hp) (C : Addr) (cl : List (Str × Addr)) (fp : List Addr) : PE (X.blk s H scope (compEnvC scope cl C X.env) fp) e (uE X scope e) := ⟨fun pins s' σ H' Q I h => sE.run pins s' σ H' Q I (h s H C cl fp)⟩
end
/-- for all contexts of the block -/
def InBlk (X : Cx) (scope : Scope) (P : Cx → Prop) : Prop := ∀ (s : Shared) (H : Hp) (C : Addr) (cl : List (Str × Addr)) (fp : List Addr), P (X.blk s H scope (compEnvC scope cl C X.env) fp)
/-- one who builds an object at A, unknown to the shared part -/
structure Hid (K : PySem.W.Frag) (cl : Nat → Addr) (s0 : Sta) (w0 : List Ow) (s : Sta) (w : List Ow) (A : Addr) (o : HO) : Prop where
  st : Step s0 s
  ok : Ok K cl s w
  new : s0.H A = none
  at_ : s.H A = some o
  h0 : s.H0 A = none
  ps : some A ∉ s.ps
section
variable {K : PySem.W.Frag} {cl : Nat → Addr} {s0 s s' : Sta} {w0 w w' : List Ow} {A : Addr} {o o' : HO}
theorem Hid.start (k : Ok K cl s w) (h : s.H A = none) : Hid K cl s w ⟨s.H0, upd s.H A o, s.ps⟩ w A o :=
  ⟨(Step.refl s).put h, k.put (k.fresh h) (k.lk.nil h), h, upd_same, k.lk.nil h, k.fresh h⟩
theorem ps_same (st : Step s s') (k : Ok K cl s w) (k' : Ok K cl s' w') (hl : w'.length = w.length) : s'.ps = s.ps := by
  obtain ⟨t, ht⟩ := st.e3
  have h1 := k.len
  have h2 := k'.len
  rw [← ht, List.length_append, hl, ← h1] at h2
  have : t = [] := List.length_eq_zero_iff.mp (by omega)
  rw [← ht, this, List.append_nil]
theorem Hid.step (h : Hid K cl s0 w0 s w A o) (st : Step s s') (k : Ok K cl s' w') (hl : w'.length = w.length) : Hid K cl s0 w0 s' w' A o where
  st := h.st.trans st
  ok := k
  new := h.new
  at_ := st.e1 _ _ h.at_ h.ps
  h0 := by
    cases q : s'.H0 A with
    | none => rfl
    | some u =>
      rcases st.e2 A u q with z | z
      · rw [h.h0] at z
        cases z
      · rw [h.at_] at z
        cases z
  ps := by rw [ps_same st h.ok k hl]; exact h.ps
theorem Hid.put (h : Hid K cl s0 w0 s w A o) : Hid K cl s0 w0 ⟨s.H0, upd s.H A o', s.ps⟩ w A o' :=
  ⟨h.st.put h.new, h.ok.put h.ps h.h0, h.new, upd_same, h.h0, h.ps⟩
theorem Hid.show_ (h : Hid K cl s0 w0 s w A o) : Step s0 ⟨upd s.H0 A o, s.H, s.ps⟩ ∧ Ok K cl ⟨upd s.H0 A o, s.H, s.ps⟩ w ∧ Ex s.H0 (upd s.H0 A o) := ⟨h.st.freeze h.new h.h0, h.ok.freeze h.ps h.h0 h.at_, Ex.new h.h0⟩
end
section
variable {cl : Nat → Addr} {X : Cx} {r : List Sl} {w : List Ow} {elt tg it : Expr} {ifs : List Expr} {scope : Scope} {own : List (Str × Nat)} {pos : Pos} {α : Type}
/-- the reading of a comprehension -/
theorem lc_body {xs : List α} {enc : α → D} {ra : α → List Sl} {f : α → Bool} {is : List Nat} (s : Sta) (σ : L2.St) (I : Env X.K cl s σ r w) (J : It) (s1 : Sta) (st1 : Step s s1) (ok1 : Ok X.K cl s1 w) (itd : ItD X.K cl J s1 (xs.map enc)) (A : Addr) (nA : s1.H A = none) (P : Nat → List Ow → List D → Prop) (hz : xs.length ≤ 100000) (his : ∀ i ∈ is, i ∈ own.map (·.2)) (h0 : P 0 w []) (hw : ∀ i w1 acc, P i w1 acc → w1.length = w.length ∧ acc.length ≤ i)
    (hg : ∀ x ∈ xs, ∀ i w1 acc, P i w1 acc → InBlk X scope fun Y => WG cl Y (wipeR r (own.map (·.2))) w1 tg (enc x) is (ra x))
    (ht : ∀ x ∈ xs, ∀ i w1 acc, P i w1 acc → InBlk X scope fun Y => WTs cl Y (ra x) w1 ifs (f x))
    (he : ∀ x ∈ xs, ∀ i w1 acc, xs[i]? = some x → P i w1 acc → f x = true → InBlk X scope fun Y => WE cl Y (ra x) w1 elt fun z w2 => ∃ y, z = .d y ∧ P (i + 1) w2 (acc ++ [y]))
    (hn : ∀ x ∈ xs, ∀ i w1 acc, xs[i]? = some x → P i w1 acc → f x = false → P (i + 1) w1 acc)
    (Q : VK) (k : ∀ v s' w' ys, Step s s' → Ok X.K cl s' w' → P xs.length w' ys → R cl s'.H0 (.lst ys) v → Q v s'.H) :
    ∃ W0 : Nat → Nat → Hp → Prop, (∃ m, W0 0 m (upd s1.H A (.lst []))) ∧ ∀ i m H, W0 i m H →
      (J.stop i H ∧ Q (.ref A) H) ∨ (J.go i H ∧ ∃ Nx : Hp → Prop, (∀ H', Nx H' → ∃ m', m' < m ∧ W0 (i + 1) m' H') ∧ ∀ x H', J.yld i H x H' → uG X scope tg x (wipe σ (own.map (·.2))) H' fun σ2 H2 => wipe σ2 (own.map (·.2)) = wipe σ (own.map (·.2)) ∧ uTs X scope ifs σ2 H2 fun b H3 =>
        if b = true then uE X scope elt σ2 H3 fun y H4 => ∃ acc, H4 A = some (.lst acc) ∧ acc.length < sizeLine ∧ Nx (upd H4 A (.lst (acc ++ [y]))) else Nx H3) := by
  have I1 := I.step st1 ok1
  have big : ∀ {m : Nat}, m ≤ 100000 → m < sizeLine := fun h => Nat.lt_of_le_of_lt h (by decide)
  refine ⟨fun i m H => m = xs.length - i ∧ i ≤ xs.length ∧ ∃ sx w1 acc vs, sx.H = H ∧ Hid X.K cl s1 w sx w1 A (.lst vs) ∧ P i w1 acc ∧ Rs cl sx.H0 acc vs, ⟨xs.length, by simp, Nat.zero_le _, ⟨s1.H0, upd s1.H A (.lst []), s1.ps⟩, w, [], [], rfl, Hid.start ok1 nA, h0, .nil⟩, ?_⟩
  rintro i m H ⟨rfl, hi', sx, w1, acc, vs, rfl, hd, hp, hr⟩
  by_cases hlt : i < xs.length
  · have hx : xs[i]? = some xs[i] := List.getElem?_eq_getElem hlt
    have hmem : xs[i] ∈ xs := List.getElem_mem hlt
    obtain ⟨go, yl⟩ := itd.item i (enc xs[i]) sx hd.st hd.ok.lk (by rw [List.getElem?_map, hx]; rfl)
    refine .inr ⟨go, fun H' => ∃ sx w1 acc vs, sx.H = H' ∧ Hid X.K cl s1 w sx w1 A (.lst vs) ∧ P (i + 1) w1 acc ∧ Rs cl sx.H0 acc vs, fun H' ⟨sx, w1, acc, vs, e, q⟩ => ⟨xs.length - (i + 1), by omega, rfl, hlt, sx, w1, acc, vs, e, q⟩, fun v H' y => ?_⟩
    obtain ⟨sy, rfl, sty, oky, rv⟩ := yl v H' y
    have hd2 := hd.step sty (oky _ hd.ok) rfl
    have hr2 := hr.mono sty.e0
    have J0 : Env X.K cl sy (wipe σ (own.map (·.2))) (wipeR r (own.map (·.2))) w1 := ⟨hd2.ok, (I1.sl.step hd2.st).wipe _⟩
    intro b1 b2 b3 b4 b5
    refine hg _ hmem i w1 acc hp b1 b2 b3 b4 b5 sy _ v J0 rv _ fun σ2 k2 l2 c2 => ⟨wipe_same l2 his c2, ?_⟩
    have J1 : Env X.K cl sy σ2 (ra xs[i]) w1 := ⟨hd2.ok, k2⟩
    intro c1 c2' c3 c4 c5
    refine ht _ hmem i w1 acc hp c1 c2' c3 c4 c5 sy σ2 J1 _ fun sz stz okz => ?_
    have hd3 := hd2.step stz okz rfl
    cases hf : f xs[i] with
    | false =>
      rw [if_neg Bool.false_ne_true]
      exact ⟨sz, w1, acc, vs, rfl, hd3, hn _ hmem i w1 acc hx hp hf, hr2.mono stz.e0⟩
    | true =>
      rw [if_pos rfl]
      intro d1 d2 d3 d4 d5
      refine he _ hmem i w1 acc hx hp hf d1 d2 d3 d4 d5 sz σ2 ⟨okz, J1.sl.step stz⟩ _ fun v3 s3 x3 w3 st3 ok3 rv3 F3 => ?_
      obtain ⟨y, rfl, hp3⟩ := F3
      obtain ⟨u3, e3, ry⟩ := rv3
      cases e3
      have hl3 : w3.length = w1.length := by rw [(hw _ _ _ hp3).1, (hw _ _ _ hp).1]
      have hd4 := hd3.step st3 ok3 hl3
      have hr4 := (hr2.mono stz.e0).mono st3.e0
      refine ⟨vs, hd4.at_, ?_, ⟨s3.H0, upd s3.H A (.lst (vs ++ [v3])), s3.ps⟩, w3, acc ++ [y], vs ++ [v3], rfl, hd4.put, hp3, hr4.append (.one ry)⟩
      rw [hr.length]
      exact big (by have := (hw _ _ _ hp).2; omega)
  · have e : i = xs.length := by omega
    subst e
    have hs := itd.stop sx hd.st hd.ok.lk
    rw [List.length_map] at hs
    obtain ⟨z1, z2, z3⟩ := hd.show_
    exact .inl ⟨hs, k _ ⟨upd sx.H0 A (.lst vs), sx.H, sx.ps⟩ w1 acc (st1.trans z1) z2 hp ⟨A, vs, rfl, upd_same, hr.mono z3⟩⟩
theorem lc_readS {xs : List α} {enc : α → D} {ra : α → List Sl} {f : α → Bool} {is : List Nat} (s : Sta) (σ : L2.St) (I : Env X.K cl s σ r w) (P : Nat → List Ow → List D → Prop) (hz : xs.length ≤ 100000) (hi : ∀ Q : It → Hp → Prop, (∀ J s', Step s s' → Ok X.K cl s' w → ItD X.K cl J s' (xs.map enc) → Q J s'.H) → tIr X tg it σ s.H Q) (his : ∀ i ∈ is, i ∈ own.map (·.2)) (h0 : P 0 w []) (hw : ∀ i w1 acc, P i w1 acc → w1.length = w.length ∧ acc.length ≤ i)
    (hg : ∀ x ∈ xs, ∀ i w1 acc, P i w1 acc → InBlk X scope fun Y => WG cl Y (wipeR r (own.map (·.2))) w1 tg (enc x) is (ra x))
    (ht : ∀ x ∈ xs, ∀ i w1 acc, P i w1 acc → InBlk X scope fun Y => WTs cl Y (ra x) w1 ifs (f x))
    (he : ∀ x ∈ xs, ∀ i w1 acc, xs[i]? = some x → P i w1 acc → f x = true → InBlk X scope fun Y => WE cl Y (ra x) w1 elt fun z w2 => ∃ y, z = .d y ∧ P (i + 1) w2 (acc ++ [y]))
    (hn : ∀ x ∈ xs, ∀ i w1 acc, xs[i]? = some x → P i w1 acc → f x = false → P (i + 1) w1 acc)
    (Q : VK) (k : ∀ v s' w' ys, Step s s' → Ok X.K cl s' w' → P xs.length w' ys → R cl s'.H0 (.lst ys) v → Q v s'.H) :
    tLc (tIr X tg it) (uG X scope tg) (uTs X scope ifs) (uE X scope elt) (own.map (·.2)) σ s.H Q :=
  hi _ fun J s1 st1 ok1 itd A nA => lc_body s σ I J s1 st1 ok1 itd A nA P hz his h0 hw hg ht he hn Q k
theorem lc_read {xs : List α} {enc : α → D} {ra : α → List Sl} {f : α → Bool} {is : List Nat} (P : Nat → List Ow → List D → Prop) (hz : xs.length ≤ 100000) (hi : WI cl X r w tg it (xs.map enc)) (his : ∀ i ∈ is, i ∈ own.map (·.2)) (h0 : P 0 w []) (hw : ∀ i w1 acc, P i w1 acc → w1.length = w.length ∧ acc.length ≤ i)
    (hg : ∀ x ∈ xs, ∀ i w1 acc, P i w1 acc → InBlk X scope fun Y => WG cl Y (wipeR r (own.map (·.2))) w1 tg (enc x) is (ra x))
    (ht : ∀ x ∈ xs, ∀ i w1 acc, P i w1 acc → InBlk X scope fun Y => WTs cl Y (ra x) w1 ifs (f x))
    (he : ∀ x ∈ xs, ∀ i w1 acc, xs[i]? = some x → P i w1 acc → f x = true → InBlk X scope fun Y => WE cl Y (ra x) w1 elt fun z w2 => ∃ y, z = .d y ∧ P (i + 1) w2 (acc ++ [y]))
    (hn : ∀ x ∈ xs, ∀ i w1 acc, xs[i]? = some x → P i w1 acc → f x = false → P (i + 1) w1 acc)
    (s : Sta) (σ : L2.St) (I : Env X.K cl s σ r w) (Q : VK) (k : ∀ v s' w' ys, Step s s' → Ok X.K cl s' w' → P xs.length w' ys → R cl s'.H0 (.lst ys) v → Q v s'.H) :
    tLc (tIr X tg it) (uG X scope tg) (uTs X scope ifs) (uE X scope elt) (own.map (·.2)) σ s.H Q :=
  lc_readS s σ I P hz (hi s σ I) his h0 hw hg ht he hn Q k
theorem filter_take {xs : List α} {f : α → Bool} {i : Nat} {x : α} (h : xs[i]? = some x) : (xs.take (i + 1)).filter f = (xs.take i).filter f ++ (if f x = true then [x] else []) := by
  rw [List.take_add_one, h, List.filter_append]
  congr 1
  show List.filter f [x] = _
  rw [List.filter_cons]
  rfl
/-- pure -/
theorem lc_pureS {xs : List α} {enc : α → D} {ra : α → List Sl} {f : α → Bool} {g : α → D} {is : List Nat} (s : Sta) (σ : L2.St) (I : Env X.K cl s σ r w) (hz : xs.length ≤ 100000) (hi : ∀ Q : It → Hp → Prop, (∀ J s', Step s s' → Ok X.K cl s' w → ItD X.K cl J s' (xs.map enc) → Q J s'.H) → tIr X tg it σ s.H Q) (his : ∀ i ∈ is, i ∈ own.map (·.2))
    (hg : ∀ x ∈ xs, InBlk X scope fun Y => WG cl Y (wipeR r (own.map (·.2))) w tg (enc x) is (ra x))
    (ht : ∀ x ∈ xs, InBlk X scope fun Y => WTs cl Y (ra x) w ifs (f x))
    (he : ∀ x ∈ xs, f x = true → InBlk X scope fun Y => WP cl Y (ra x) w elt (g x))
    (Q : VK) (k : ∀ v s', Step s s' → Ok X.K cl s' w → R cl s'.H0 (.lst ((xs.filter f).map g)) v → Q v s'.H) :
    tLc (tIr X tg it) (uG X scope tg) (uTs X scope ifs) (uE X scope elt) (own.map (·.2)) σ s.H Q := by
  refine lc_readS (f := f) (ra := ra) (is := is) s σ I (P := fun i w1 acc => w1 = w ∧ i ≤ xs.length ∧ acc = ((xs.take i).filter f).map g) hz hi his ⟨rfl, Nat.zero_le _, rfl⟩ (fun i w1 acc h => ?_) (fun x hx i w1 acc h => ?_) (fun x hx i w1 acc h => ?_) (fun x hx i w1 acc e h hf s1 H1 C1 cl1 fp1 => ?_) (fun x hx i w1 acc e h hf => ?_) Q fun v s' w' ys st ok h rv => ?_
  · obtain ⟨rfl, h1, rfl⟩ := h
    refine ⟨rfl, ?_⟩
    rw [List.length_map]
    have := List.length_filter_le f (xs.take i)
    rw [List.length_take] at this
    omega
  · obtain ⟨rfl, _⟩ := h
    exact hg x hx
  · obtain ⟨rfl, _⟩ := h
    exact ht x hx
  · obtain ⟨rfl, h1, rfl⟩ := h
    refine (he x hx hf s1 H1 C1 cl1 fp1).we ⟨_, rfl, rfl, (List.getElem?_eq_some_iff.mp e).1, ?_⟩
    rw [filter_take e, if_pos hf, List.map_append]
    rfl
  · obtain ⟨rfl, h1, rfl⟩ := h
    refine ⟨rfl, (List.getElem?_eq_some_iff.mp e).1, ?_⟩
    rw [filter_take e, if_neg (by rw [hf]; exact Bool.false_ne_true), List.append_nil]
  · obtain ⟨rfl, _, rfl⟩ := h
    rw [List.take_length] at rv
    exact k v s' st ok rv
theorem lc_pure {xs : List α} {enc : α → D} {ra : α → List Sl} {f : α → Bool} {g : α → D} {is : List Nat} (hz : xs.length ≤ 100000) (hi : WI cl X r w tg it (xs.map enc)) (his : ∀ i ∈ is, i ∈ own.map (·.2))
    (hg : ∀ x ∈ xs, InBlk X scope fun Y => WG cl Y (wipeR r (own.map (·.2))) w tg (enc x) is (ra x))
    (ht : ∀ x ∈ xs, InBlk X scope fun Y => WTs cl Y (ra x) w ifs (f x))
    (he : ∀ x ∈ xs, f x = true → InBlk X scope fun Y => WP cl Y (ra x) w elt (g x))
    (s : Sta) (σ : L2.St) (I : Env X.K cl s σ r w) (Q : VK) (k : ∀ v s', Step s s' → Ok X.K cl s' w → R cl s'.H0 (.lst ((xs.filter f).map g)) v → Q v s'.H) :
    tLc (tIr X tg it) (uG X scope tg) (uTs X scope ifs) (uE X scope elt) (own.map (·.2)) σ s.H Q :=
  lc_pureS s σ I hz (hi s σ I) his hg ht he Q k
/-- as a value -/
theorem wp_lc {xs : List α} {enc : α → D} {ra : α → List Sl} {f : α → Bool} {g : α → D} {is : List Nat} (own : List (Str × Nat)) (hc : X.calm = true) (hN : X.N.Nodup) (ok : BlkOk X.N X.env.scope scope own) (hz : xs.length ≤ 100000) (hi : WI cl X r w tg it (xs.map enc)) (his : ∀ i ∈ is, i ∈ own.map (·.2))
    (hg : ∀ x ∈ xs, InBlk X scope fun Y => WG cl Y (wipeR r (own.map (·.2))) w tg (enc x) is (ra x))
    (ht : ∀ x ∈ xs, InBlk X scope fun Y => WTs cl Y (ra x) w ifs (f x))
    (he : ∀ x ∈ xs, f x = true → InBlk X scope fun Y => WP cl Y (ra x) w elt (g x)) (hs : ∀ x, foldedSetIterable it X.env x = pure x := by intro _; rfl) :
    WP cl X r w (.ListComp elt [⟨tg, it, ifs, 0⟩] scope pos) (.lst ((xs.filter f).map g)) := fun s σ I Q k =>
  ⟨_, pe_lc hc hN sI ok suG suTs suE hs, lc_pure hz hi his hg ht he s σ I Q k⟩
end
end FV
set_option Elab.async false
set_option linter.all false
set_option maxRecDepth 100000
set_option maxHeartbeats 2000000
/-! The data layer, part E: statements; defs and their promises. -/
namespace FV
open PySem PySem.Spec PyProof.Rows L2

structure Ph where
  nx : List Sl → List Ow → Prop
  rt : Sl → List Ow → Prop := fun _ _ => False
  bk : List Sl → List Ow → Prop := fun _ _ => False
  ct : List Sl → List Ow → Prop := fun _ _ => False
structure Cont (K : PySem.W.Frag) (cl : Nat → Addr) (B : Sta) (F : Ph) (D : Ends) : Prop where
  nx : ∀ s σ r w, Step B s → Env K cl s σ r w → F.nx r w → D.nx σ s.H
  rt : ∀ s v x w, Step B s → Ok K cl s w → Rv cl s x (some v) → F.rt x w → D.rt v s.H
  bk : ∀ s σ r w, Step B s → Env K cl s σ r w → F.bk r w → D.bk σ s.H
  ct : ∀ s σ r w, Step B s → Env K cl s σ r w → F.ct r w → D.ct σ s.H
section
variable (cl : Nat → Addr) (X : Cx) (m : Nat)
def WS (r : List Sl) (w : List Ow) (st : Stmt) (F : Ph) : Prop := ∀ (B s : Sta) (σ : L2.St) (D : Ends), B.ps.length = m → Step B s → Env X.K cl s σ r w → Cont X.K cl B F D → tS X st D σ s.H
def WSs (r : List Sl) (w : List Ow) (st : List Stmt) (F : Ph) : Prop := ∀ (B s : Sta) (σ : L2.St) (D : Ends), B.ps.length = m → Step B s → Env X.K cl s σ r w → Cont X.K cl B F D → tSs X st D σ s.H
end
/-- fewer slots are known -/
inductive Sub : List Sl → List Sl → Prop
  | nil : Sub [] []
  | u {x : Sl} {r r' : List Sl} (h : Sub r r') : Sub (.u :: r) (x :: r')
  | same {x : Sl} {r r' : List Sl} (h : Sub r r') : Sub (x :: r) (x :: r')
theorem Sub.refl : ∀ r : List Sl, Sub r r
  | [] => .nil
  | _ :: r => .same (Sub.refl r)
theorem Rvs.sub {cl : Nat → Addr} {s : Sta} : ∀ {r r' : List Sl} {σ : L2.St}, Sub r r' → Rvs cl s r' σ → Rvs cl s r σ
  | _, _, _, .nil, h => h
  | _, _, _, .u q, ⟨v, t, e, _, k⟩ => ⟨v, t, e, trivial, Rvs.sub q k⟩
  | _, _, _, .same q, ⟨v, t, e, j, k⟩ => ⟨v, t, e, j, Rvs.sub q k⟩
theorem Env.sub {K : PySem.W.Frag} {cl : Nat → Addr} {s : Sta} {σ : L2.St} {r r' : List Sl} {w : List Ow} (I : Env K cl s σ r' w) (h : Sub r r') : Env K cl s σ r w := ⟨I.ok, I.sl.sub h⟩
section
variable {cl : Nat → Addr} {X : Cx} {m : Nat} {r : List Sl} {w : List Ow} {e a b c tg : Expr} {d x y z : D} {pos p p2 : Pos} {n : Str} {es : List Expr} {ds : List D} {st : Stmt} {sts : List Stmt} {F : Ph}
theorem wss_nil (h : F.nx r w) : WSs cl X m r w [] F := fun B s σ D hm st I C => ⟨_, pss_nil, C.nx s σ r w st I h⟩
theorem wss_cons (h : WS cl X m r w st { F with nx := fun r1 w1 => WSs cl X m r1 w1 sts F }) : WSs cl X m r w (st :: sts) F := fun B s σ D hm st I C =>
  ⟨_, pss_cons sS sSs, h B s σ _ hm st I ⟨fun s1 σ1 r1 w1 st1 I1 k => k B s1 σ1 D hm st1 I1 C, C.rt, C.bk, C.ct⟩⟩
theorem wss_one (h : WS cl X m r w st F) : WSs cl X m r w [st] F := fun B s σ D hm st I C => ⟨_, pss_one sS, h B s σ D hm st I C⟩
theorem wss_sub {r' : List Sl} (q : Sub r' r) (h : WSs cl X m r' w sts F) : WSs cl X m r w sts F := fun B s σ D hm st I C => h B s σ D hm st (I.sub q) C
theorem ws_set (i : Nat) {p' : Pos} (hN : X.N.Nodup) (h : WE cl X r w e fun x w1 => F.nx (r.set i x) w1) (hi : X.N[i]? = some n := by rfl) (hx : Loc X.env.scope n := by first | exact .inl rfl | exact .inr rfl) (hs : swapsWith e (some (.Name n p')) pos.line X.env = pure false := by rfl)
    (hf : X.fn n = true ∨ X.env.scope.names.lookup n = some .local := by first | exact .inl rfl | exact .inr rfl) : WS cl X m r w (.Assign [.Name n p'] e pos) F := fun B s σ D hm st I C =>
  ⟨_, ps_set hN hi hx sE hs hf, h s σ I _ fun v s1 x1 w1 st1 ok1 rv k => C.nx s1 _ _ w1 (st.trans st1) ⟨ok1, (I.sl.step st1).set i rv⟩ k⟩
theorem ws_setp (i : Nat) {p' : Pos} (hN : X.N.Nodup) (h : WP cl X r w e d) (k : F.nx (r.set i (.d d)) w) (hi : X.N[i]? = some n := by rfl) (hx : Loc X.env.scope n := by first | exact .inl rfl | exact .inr rfl) (hs : swapsWith e (some (.Name n p')) pos.line X.env = pure false := by rfl)
    (hf : X.fn n = true ∨ X.env.scope.names.lookup n = some .local := by first | exact .inl rfl | exact .inr rfl) : WS cl X m r w (.Assign [.Name n p'] e pos) F := ws_set i hN (h.we k) hi hx hs hf
/-- name = [..] -/
theorem ws_setLc (i : Nat) {p' : Pos} {α : Type} {elt it : Expr} {ifs : List Expr} {scope : Scope} {pos2 : Pos} {xs : List α} {enc : α → D} {ra : α → List Sl} {f : α → Bool} {g : α → D} {is : List Nat} (own : List (Str × Nat)) (hc : X.calm = true) (hN : X.N.Nodup) (hy : X.N[i]? = some n) (hyl : X.env.scope.names.lookup n = some .local)
    (hsw : swapsWith (.ListComp elt [⟨tg, it, ifs, 0⟩] scope pos2) (some (.Name n p')) pos.line X.env = pure true) (ok : BlkOk X.N X.env.scope scope own) (hz : xs.length ≤ 100000) (hi : WI cl X r w tg it (xs.map enc)) (his : ∀ i ∈ is, i ∈ own.map (·.2))
    (hg : ∀ x ∈ xs, InBlk X scope fun Y => WG cl Y (wipeR r (own.map (·.2))) w tg (enc x) is (ra x))
    (ht : ∀ x ∈ xs, InBlk X scope fun Y => WTs cl Y (ra x) w ifs (f x))
    (he : ∀ x ∈ xs, f x = true → InBlk X scope fun Y => WP cl Y (ra x) w elt (g x))
    (k : F.nx (r.set i (.d (.lst ((xs.filter f).map g)))) w) (hs : ∀ x, foldedSetIterable it X.env x = pure x := by intro _; rfl) : WS cl X m r w (.Assign [.Name n p'] (.ListComp elt [⟨tg, it, ifs, 0⟩] scope pos2) pos) F := fun B s σ D hm st I C =>
  ⟨_, ps_setLc hc hN hy hyl hsw sI ok suG suTs suE hs, lc_pure hz hi his hg ht he s σ I _ fun v s1 st1 ok1 rv => C.nx s1 _ _ w (st.trans st1) ⟨ok1, (I.sl.step st1).set i (x := .d _) ⟨v, rfl, rv⟩⟩ k⟩
theorem ws_ret (h : WP cl X r w e d) (k : F.rt (.d d) w) : WS cl X m r w (.Return (some e) pos) F := fun B s σ D hm st I C => ⟨_, ps_ret sE, h s σ I _ fun v s1 st1 ok1 rv => C.rt s1 v (.d d) w (st.trans st1) ok1 ⟨v, rfl, rv⟩ k⟩
theorem ws_rete (h : WE cl X r w e F.rt) : WS cl X m r w (.Return (some e) pos) F := fun B s σ D hm st I C => ⟨_, ps_ret sE, h s σ I _ fun v s1 x1 w1 st1 ok1 rv k => C.rt s1 v x1 w1 (st.trans st1) ok1 rv k⟩
theorem ws_if {t : Bool} {p q : List Stmt} (h : WT cl X r w c t) (k1 : t = true → WSs cl X m r w p F) (k2 : t = false → WSs cl X m r w q F) : WS cl X m r w (.If c p q pos) F := fun B s σ D hm st I C =>
  ⟨_, ps_if sT sSs sSs, h s σ I _ fun s1 st1 ok1 => by
    cases t with
    | true =>
      rw [if_pos rfl]
      exact k1 rfl B s1 σ D hm (st.trans st1) (I.step st1 ok1) C
    | false =>
      rw [if_neg Bool.false_ne_true]
      exact k2 rfl B s1 σ D hm (st.trans st1) (I.step st1 ok1) C⟩
theorem ws_never (h : False) : WS cl X m r w st F := h.elim
theorem wss_never (h : False) : WSs cl X m r w sts F := h.elim

/-! ### owned objects made, changed, given up -/
theorem ps_get {s : Sta} {n : Nat} {q : Addr} (h : s.ps[n]? = some (some q)) : n < s.ps.length := (List.getElem?_eq_some_iff.mp h).1
/-- one more owned object -/
theorem Ok.own_new {K : PySem.W.Frag} {s : Sta} {p : Addr} {o : HO} {u : Ow} (k : Ok K cl s w) (hp : s.H p = none) (hu : OwOk K cl s.H0 (upd s.H p o) p u) : Ok K cl ⟨s.H0, upd s.H p o, s.ps ++ [some p]⟩ (w ++ [u]) := by
  have k2 := k.put (o := o) (k.fresh hp) (k.lk.nil hp)
  refine ⟨k2.lk, fun i j q e1 e2 => ?_, ?_, fun n q v e1 e2 => ?_, tb_app k.tb k.len hu.tbp⟩
  · have f1 : (s.ps ++ [some p])[i]? = some (some q) := e1
    have f2 : (s.ps ++ [some p])[j]? = some (some q) := e2
    clear e1 e2
    rw [List.getElem?_append] at f1 f2
    have nq : ∀ {i : Nat}, s.ps[i]? = some (some p) → False := fun z => k.fresh hp (mem_ps z)
    by_cases a : i < s.ps.length <;> by_cases b : j < s.ps.length
    · rw [if_pos a] at f1
      rw [if_pos b] at f2
      exact k.nd i j q f1 f2
    · rw [if_pos a] at f1
      rw [if_neg b] at f2
      have z := List.mem_of_getElem? f2
      simp only [List.mem_singleton, Option.some.injEq] at z
      subst z
      exact (nq f1).elim
    · rw [if_neg a] at f1
      rw [if_pos b] at f2
      have z := List.mem_of_getElem? f1
      simp only [List.mem_singleton, Option.some.injEq] at z
      subst z
      exact (nq f2).elim
    · rw [if_neg a] at f1
      rw [if_neg b] at f2
      have h1 := (List.getElem?_eq_some_iff.mp f1).1
      have h2 := (List.getElem?_eq_some_iff.mp f2).1
      simp only [List.length_singleton] at h1 h2
      omega
  · show (s.ps ++ [some p]).length = _
    rw [List.length_append, List.length_append, k.len]
    rfl
  · have e1 : (s.ps ++ [some p])[n]? = some (some q) := e1
    rw [List.getElem?_append] at e1 e2
    rw [k.len] at e1
    by_cases a : n < w.length
    · rw [if_pos a] at e1 e2
      exact k2.ow n q v e1 e2
    · rw [if_neg a] at e1 e2
      have h1 := (List.getElem?_eq_some_iff.mp e1).1
      simp only [List.length_singleton] at h1
      have h0 : n - w.length = 0 := by omega
      rw [h0] at e1 e2
      simp only [List.getElem?_cons_zero, Option.some.injEq] at e1 e2
      subst e1 e2
      exact hu
theorem Step.own_new {B s : Sta} {p : Addr} {o : HO} (st : Step B s) (hp : s.H p = none) : Step B ⟨s.H0, upd s.H p o, s.ps ++ [some p]⟩ := by
  have k := st.put (o := o) (st.back hp)
  refine ⟨k.e0, k.e1, k.e2, k.e3.trans (List.prefix_append _ _), fun q hq => ?_, k.e5⟩
  have hq : some q ∈ s.ps ++ [some p] := hq
  rcases List.mem_append.mp hq with z | z
  · exact k.e4 q z
  · simp only [List.mem_singleton, Option.some.injEq] at z
    subst z
    exact .inr (st.back hp)
theorem Rvs.grow {s : Sta} {ps' : List (Option Addr)} {H' : Hp} {σ : L2.St} : ∀ {r : List Sl} {σ : L2.St}, Rvs cl s r σ → (s.ps <+: ps') → Rvs cl ⟨s.H0, H', ps'⟩ r σ
  | [], _, h, _ => h
  | .u :: _, _, ⟨v, t, e, q, k⟩, hp => ⟨v, t, e, trivial, Rvs.grow (σ := σ) k hp⟩
  | .d _ :: _, _, ⟨v, t, e, q, k⟩, hp => ⟨v, t, e, q, Rvs.grow (σ := σ) k hp⟩
  | .o n :: _, _, ⟨v, t, e, ⟨a, q1, q2⟩, k⟩, hp => ⟨v, t, e, ⟨a, by
    obtain ⟨t', ht⟩ := hp
    show ps'[n]? = _
    rw [← ht, List.getElem?_append_left (ps_get q1)]
    exact q1, q2⟩, Rvs.grow (σ := σ) k ⟨_, hp.choose_spec⟩⟩
/-- name = [e, ..], a list to be grown -/
theorem ws_newL (i : Nat) {p' : Pos} (hN : X.N.Nodup) (h : WAp cl X r w es ds) (hl : ds.length ≤ 100000) (k : F.nx (r.set i (.o w.length)) (w ++ [.lst ds])) (hi : X.N[i]? = some n := by rfl) (hx : Loc X.env.scope n := by first | exact .inl rfl | exact .inr rfl) (hs : swapsWith (.List es p2) (some (.Name n p')) pos.line X.env = pure false := by rfl)
    (hf : X.fn n = true ∨ X.env.scope.names.lookup n = some .local := by first | exact .inl rfl | exact .inr rfl) : WS cl X m r w (.Assign [.Name n p'] (.List es p2) pos) F := fun B s σ D hm st I C =>
  ⟨_, ps_set hN hi hx (pe_lst sA) hs hf, h s σ I _ fun vs s1 st1 ok1 rs => ⟨by rw [rs.length]; exact small hl, fun q nq => by
    refine C.nx ⟨s1.H0, upd s1.H q (.lst vs), s1.ps ++ [some q]⟩ _ _ _ ((st.trans st1).own_new nq) ⟨ok1.own_new (u := .lst ds) nq ⟨ok1.lk.nil nq, vs, upd_same, rs⟩, ?_⟩ k
    refine (Rvs.grow (σ := σ) (I.sl.step st1) (List.prefix_append _ _)).set i ⟨q, ?_, rfl⟩
    show (s1.ps ++ [some q])[w.length]? = _
    rw [← ok1.len, List.getElem?_append_right (Nat.le_refl _), Nat.sub_self]
    rfl⟩⟩
theorem ws_newD (i : Nat) {p' : Pos} (hN : X.N.Nodup) (k : F.nx (r.set i (.o w.length)) (w ++ [.dic [] []])) (hi : X.N[i]? = some n := by rfl) (hx : Loc X.env.scope n := by first | exact .inl rfl | exact .inr rfl) (hs : swapsWith (.Dict [] [] p2) (some (.Name n p')) pos.line X.env = pure false := by rfl)
    (hf : X.fn n = true ∨ X.env.scope.names.lookup n = some .local := by first | exact .inl rfl | exact .inr rfl) : WS cl X m r w (.Assign [.Name n p'] (.Dict [] [] p2) pos) F := fun B s σ D hm st I C =>
  ⟨_, ps_set hN hi hx pe_dnewK hs hf, fun q nq => by
    refine C.nx ⟨s.H0, upd s.H q (.dK []), s.ps ++ [some q]⟩ _ _ _ (st.own_new nq) ⟨I.ok.own_new (u := .dic [] []) nq ⟨I.ok.lk.nil nq, [], upd_same, rfl, List.nodup_nil, .nil⟩, ?_⟩ k
    refine (Rvs.grow (σ := σ) I.sl (List.prefix_append _ _)).set i ⟨q, ?_, rfl⟩
    show (s.ps ++ [some q])[w.length]? = _
    rw [← I.ok.len, List.getElem?_append_right (Nat.le_refl _), Nat.sub_self]
    rfl⟩
/-- the n-th owned object changes -/
theorem Ok.own_set {K : PySem.W.Frag} {s : Sta} {p : Addr} {o : HO} {u : Ow} {n : Nat} (k : Ok K cl s w) (hn : s.ps[n]? = some (some p)) (hu : OwOk K cl s.H0 (upd s.H p o) p u) : Ok K cl ⟨s.H0, upd s.H p o, s.ps⟩ (w.set n u) := by
  have hq := (k.own (mem_ps hn)).1
  refine ⟨fun a v e => ?_, k.nd, by rw [List.length_set]; exact k.len, fun j q v e1 e2 => ?_, tb_set k.tb fun p' q e => by rw [← hu.tbp p' q e]; exact hn⟩
  · have ha : a ≠ p := ne_of_none e hq
    show upd s.H p o a = some v ∨ _ ∧ ∃ ob, upd s.H p o a = _
    rw [upd_ne ha]
    exact k.lk a v e
  · have e1 : s.ps[j]? = some (some q) := e1
    by_cases z : n = j
    · subst z
      rw [hn] at e1
      cases e1
      rw [List.getElem?_set_self (by rw [← k.len]; exact ps_get hn)] at e2
      cases e2
      exact hu
    · rw [List.getElem?_set_ne z] at e2
      have hqp : q ≠ p := fun e => z (k.nd n j p hn (by rw [← e]; exact e1))
      refine (k.ow j q v e1 e2).ext (Ex.refl _) (fun e => e) ?_
      show upd s.H p o q = s.H q
      rw [upd_ne hqp]
theorem Step.own_set {B s : Sta} {p : Addr} {o : HO} (st : Step B s) (hp : some p ∈ B.ps ∨ B.H p = none) : Step B ⟨s.H0, upd s.H p o, s.ps⟩ where
  e0 := st.e0
  e1 x u e n := by
    have ne : x ≠ p := fun z => by
      rw [z] at e n
      rcases hp with q | q
      · exact n q
      · rw [q] at e
        cases e
    show upd s.H p o x = some u
    rw [upd_ne ne]
    exact st.e1 x u e n
  e2 := st.e2
  e3 := st.e3
  e4 := st.e4
  e5 x h e := by
    show (upd s.H p o x).isSome = true
    by_cases q : x = p
    · rw [q, upd_same]
      rfl
    · rw [upd_ne q]
      exact st.e5 x h e
theorem Ok.own_at {K : PySem.W.Frag} {s : Sta} {n : Nat} {u : Ow} (k : Ok K cl s w) {p : Addr} (hn : s.ps[n]? = some (some p)) (hw : w[n]? = some u) : OwOk K cl s.H0 s.H p u := k.ow n p u hn hw
theorem Rvs.heap {s : Sta} {H' : Hp} : ∀ {r : List Sl} {σ : L2.St}, Rvs cl s r σ → Rvs cl ⟨s.H0, H', s.ps⟩ r σ
  | [], _, h => h
  | .u :: _, _, ⟨v, t, e, q, k⟩ => ⟨v, t, e, trivial, Rvs.heap k⟩
  | .d _ :: _, _, ⟨v, t, e, q, k⟩ => ⟨v, t, e, q, Rvs.heap k⟩
  | .o n :: _, _, ⟨v, t, e, q, k⟩ => ⟨v, t, e, q, Rvs.heap k⟩
/-- x.append(e) -/
theorem ws_append (i : Nat) {nn : Nat} {apos cpos : Pos} (hr : r[i]? = some (.o nn)) (hw : w[nn]? = some (.lst ds)) (h : WP cl X r w e d) (hl : ds.length < 100000) (k : F.nx r (w.set nn (.lst (ds ++ [d])))) (hN : X.N[i]? = some n := by rfl) (hv : Vis X.env.scope n := by first | exact Or.inl rfl | exact Or.inr (Or.inl rfl))
    (hd : (n == ("__debug__" : Str)) = false := by decide) (hcd : (n == ("__classdict__" : Str)) = false := by decide)
    (hbase : attributeBase (.Name n p) "append" X.env (eval (.Name n p) X.env) = eval (.Name n p) X.env := by rfl)
    (hfew : ((backTo cpos (starEach [e] X.env)).all (fun x => !x.1) && (backToKw cpos (keywordEach [] X.env)).all (fun x => x.1.isSome) && decide ([e].length + ([] : List Keyword).length + (if ([] : List Keyword).isEmpty then 0 else 1) < 30)) = true := by rfl)
    (hline : (apos.endLine == cpos.line) = true := by rfl) (hs : starEach [e] X.env = (false, eval e X.env) :: starEach [] X.env := by rfl) (hplain : (backTo cpos (starEach [] X.env)).any (·.1) = false := by rfl)
    (hsw : swapsWith (.Call (.Attribute (.Name n p) "append" apos) [e] [] cpos) none pos.line X.env = pure false := by rfl) :
    WS cl X m r w (.Expr (.Call (.Attribute (.Name n p) "append" apos) [e] [] cpos) pos) F := fun B s σ D hm st I C => by
  obtain ⟨v, e1, p0, e2, e3⟩ := I.sl.get hr
  subst e3
  obtain ⟨h0, vs, hv', hrs⟩ := I.ok.own_at e2 hw
  refine ⟨_, ps_expr (pe_bm PySem.F.plainAttrs_list PySem.F.slot_list_append PySem.F.type_list_append mt_append (pe_var hN hv hd hcd) (pa_cons sE pa_nil hs) hbase hfew hline hs hplain) hsw, .ref p0, e1, .inl ⟨rfl, vs, .inl (.inl hv')⟩, h s σ I _ fun v s1 st1 ok1 rv => ?_⟩
  have hps : s1.ps = s.ps := ps_same st1 I.ok ok1 rfl
  have e4 : s1.ps[nn]? = some (some p0) := by rw [hps]; exact e2
  obtain ⟨h0', vs', hv2, hrs2⟩ := ok1.own_at e4 hw
  refine ⟨p0, vs', v, rfl, rfl, hv2, by rw [hrs2.length]; exact Nat.lt_of_lt_of_le hl (by decide), ?_⟩
  exact C.nx ⟨s1.H0, upd s1.H p0 (.lst (vs' ++ [v])), s1.ps⟩ σ r _ ((st.trans st1).own_set (st.e4 p0 (mem_ps e2))) ⟨ok1.own_set (u := .lst (ds ++ [d])) e4 ⟨h0', _, upd_same, hrs2.append (.one rv)⟩, (I.sl.step st1).heap⟩ k
/-- x.extend(e), e a list -/
theorem ws_extendL (i : Nat) {nn : Nat} {es : List D} {apos cpos : Pos} (hr : r[i]? = some (.o nn)) (hw : w[nn]? = some (.lst ds)) (h : WP cl X r w e (.lst es)) (hl : ds.length + es.length < 100000) (k : F.nx r (w.set nn (.lst (ds ++ es)))) (hN : X.N[i]? = some n := by rfl) (hv : Vis X.env.scope n := by first | exact Or.inl rfl | exact Or.inr (Or.inl rfl))
    (hd : (n == ("__debug__" : Str)) = false := by decide) (hcd : (n == ("__classdict__" : Str)) = false := by decide)
    (hbase : attributeBase (.Name n p) "extend" X.env (eval (.Name n p) X.env) = eval (.Name n p) X.env := by rfl)
    (hfew : ((backTo cpos (starEach [e] X.env)).all (fun x => !x.1) && (backToKw cpos (keywordEach [] X.env)).all (fun x => x.1.isSome) && decide ([e].length + ([] : List Keyword).length + (if ([] : List Keyword).isEmpty then 0 else 1) < 30)) = true := by rfl)
    (hline : (apos.endLine == cpos.line) = true := by rfl) (hs : starEach [e] X.env = (false, eval e X.env) :: starEach [] X.env := by rfl) (hplain : (backTo cpos (starEach [] X.env)).any (·.1) = false := by rfl)
    (hsw : swapsWith (.Call (.Attribute (.Name n p) "extend" apos) [e] [] cpos) none pos.line X.env = pure false := by rfl) :
    WS cl X m r w (.Expr (.Call (.Attribute (.Name n p) "extend" apos) [e] [] cpos) pos) F := fun B s σ D hm st I C => by
  obtain ⟨v, e1, p0, e2, e3⟩ := I.sl.get hr
  subst e3
  obtain ⟨h0, vs, hv', hrs⟩ := I.ok.own_at e2 hw
  refine ⟨_, ps_expr (pe_bm PySem.F.plainAttrs_list PySem.F.slot_list_extend PySem.F.type_list_extend mt_extend (pe_var hN hv hd hcd) (pa_cons sE pa_nil hs) hbase hfew hline hs hplain) hsw, .ref p0, e1, .inl ⟨rfl, vs, .inl (.inl hv')⟩, h s σ I _ fun v s1 st1 ok1 rv => ?_⟩
  have hps : s1.ps = s.ps := ps_same st1 I.ok ok1 rfl
  have e4 : s1.ps[nn]? = some (some p0) := by rw [hps]; exact e2
  obtain ⟨h0', vs', hv2, hrs2⟩ := ok1.own_at e4 hw
  obtain ⟨q, us, rfl, g1, g2⟩ := rv
  refine ⟨p0, q, vs', us, rfl, rfl, hv2, ok1.lk.lst g1, by rw [hrs2.length, g2.length]; exact Nat.le_trans (Nat.le_of_lt hl) (by decide), ?_⟩
  exact C.nx ⟨s1.H0, upd s1.H p0 (.lst (vs' ++ us)), s1.ps⟩ σ r _ ((st.trans st1).own_set (st.e4 p0 (mem_ps e2))) ⟨ok1.own_set (u := .lst (ds ++ es)) e4 ⟨h0', _, upd_same, hrs2.append g2⟩, (I.sl.step st1).heap⟩ k

/-- an owned list is shared from now on -/
theorem Rvs.gone {s : Sta} {nn : Nat} {ps' : List (Option Addr)} (hp : ∀ j : Nat, j ≠ nn → ps'[j]? = s.ps[j]?) : ∀ {r : List Sl} {σ : L2.St}, (∀ j : Nat, r[j]? ≠ some (Sl.o nn)) → Rvs cl s r σ → Rvs cl ⟨s.H0, s.H, ps'⟩ r σ
  | [], _, _, h => h
  | .u :: _, _, g, ⟨v, t, e, q, k⟩ => ⟨v, t, e, trivial, Rvs.gone hp (fun j => by simpa using g (j + 1)) k⟩
  | .d _ :: _, _, g, ⟨v, t, e, q, k⟩ => ⟨v, t, e, q, Rvs.gone hp (fun j => by simpa using g (j + 1)) k⟩
  | .o n :: _, _, g, ⟨v, t, e, ⟨a, q1, q2⟩, k⟩ => ⟨v, t, e, ⟨a, by
    have : n ≠ nn := fun z => g 0 (by rw [z]; rfl)
    show ps'[n]? = _
    rw [hp n this]
    exact q1, q2⟩, Rvs.gone hp (fun j => by simpa using g (j + 1)) k⟩
theorem Ok.own_gone {K : PySem.W.Frag} {s : Sta} {p : Addr} {o : HO} {n : Nat} (k : Ok K cl s w) (hn : s.ps[n]? = some (some p)) (ho : s.H p = some o) : Ok K cl ⟨upd s.H0 p o, s.H, s.ps.set n none⟩ (w.set n .gone) := by
  have hq := (k.own (mem_ps hn)).1
  have other : ∀ {j : Nat} {q : Addr}, (s.ps.set n none)[j]? = some (some q) → j ≠ n ∧ s.ps[j]? = some (some q) := fun {j q} e => by
    by_cases z : n = j
    · subst z
      rw [List.getElem?_set_self (ps_get hn)] at e
      cases e
    · rw [List.getElem?_set_ne z] at e
      exact ⟨fun y => z y.symm, e⟩
  refine ⟨fun a v e => ?_, fun i j q e1 e2 => k.nd i j q (other e1).2 (other e2).2, by show (s.ps.set n none).length = _; rw [List.length_set, List.length_set]; exact k.len, fun j q v e1 e2 => ?_, tb_gone k.tb⟩
  · have e : upd s.H0 p o a = some v := e
    by_cases z : a = p
    · rw [z, upd_same] at e
      rw [z]
      exact .inl (ho.trans e)
    · rw [upd_ne z] at e
      exact k.lk a v e
  · obtain ⟨hj, e3⟩ := other e1
    rw [List.getElem?_set_ne (fun z => hj z.symm)] at e2
    have hqp : q ≠ p := fun e => hj (k.nd j n p (by rw [← e]; exact e3) hn)
    refine (k.ow j q v e3 e2).ext (Ex.new hq) (fun e => ?_) rfl
    show upd s.H0 p o q = none
    rw [upd_ne hqp]
    exact e
theorem Step.own_gone {B s : Sta} {p : Addr} {o : HO} {n : Nat} (st : Step B s) (hq : s.H0 p = none) (hn : s.ps[n]? = some (some p)) (hm : B.ps.length ≤ n) (nd : ∀ (i j : Nat) (p : Addr), s.ps[i]? = some (some p) → s.ps[j]? = some (some p) → i = j) : Step B ⟨upd s.H0 p o, s.H, s.ps.set n none⟩ := by
  have hB : B.H p = none := by
    rcases st.e4 p (mem_ps hn) with z | z
    · obtain ⟨i, hi, e⟩ := List.mem_iff_getElem.mp z
      obtain ⟨t, ht⟩ := st.e3
      have e2 : s.ps[i]? = some (some p) := by
        rw [← ht, List.getElem?_append_left hi, List.getElem?_eq_getElem hi, e]
      have := nd i n p e2 hn
      omega
    · exact z
  have k := st.freeze (o := o) hB hq
  refine ⟨k.e0, k.e1, k.e2, ?_, fun q h => ?_, k.e5⟩
  · obtain ⟨t, ht⟩ := st.e3
    show B.ps <+: s.ps.set n none
    rw [← ht, List.set_append_right _ _ hm]
    exact List.prefix_append _ _
  · have h : some q ∈ s.ps.set n none := h
    rcases List.mem_or_eq_of_mem_set h with z | z
    · exact k.e4 q z
    · cases z
/-- what an owned object is as a datum -/
def owD : Ow → D
  | .lst xs => .lst xs
  | .dic ks ds => .dic ks ds
  | .ins c fs ds => .obj c fs ds
  | _ => .non
theorem own_R {K : PySem.W.Frag} {H0 H : Hp} {p : Addr} {u : Ow} (h : OwOk K cl H0 H p u) (hu : plO u = true) : ∃ o, H p = some o ∧ R cl (upd H0 p o) (owD u) (.ref p) := by
  cases u with
  | gone => exact h.elim
  | tape => cases hu
  | tb P q => cases hu
  | lst xs =>
    obtain ⟨h0, vs, h1, h2⟩ := h
    exact ⟨_, h1, p, vs, rfl, upd_same, h2.mono (Ex.new h0)⟩
  | dic ks ds =>
    obtain ⟨h0, vs, h1, h3, h4, h2⟩ := h
    exact ⟨_, h1, p, vs, rfl, upd_same, h3, h4, h2.mono (Ex.new h0)⟩
  | ins c fs ds =>
    obtain ⟨h0, dx, vs, h1, h3, h2⟩ := h
    exact ⟨_, h1, p, dx, vs, rfl, upd_same, h3, h2.mono (Ex.new h0)⟩
/-- the slot i's owned object is a datum from now on -/
theorem wss_share (i nn : Nat) {u : Ow} (hr : r[i]? = some (.o nn)) (hw : w[nn]? = some u) (hu : plO u = true) (hm : m ≤ nn) (ho : ∀ j : Nat, (r.set i Sl.u)[j]? ≠ some (Sl.o nn)) (h : WSs cl X m (r.set i (.d (owD u))) (w.set nn .gone) sts F) : WSs cl X m r w sts F := fun B s σ D hB st I C => by
  obtain ⟨v, e1, p0, e2, e3⟩ := I.sl.get hr
  subst e3
  obtain ⟨o, h1, h2⟩ := own_R (I.ok.own_at e2 hw) hu
  have hq := (I.ok.own (mem_ps e2)).1
  have ok2 := I.ok.own_gone e2 h1
  have st2 := st.own_gone (o := o) hq e2 (by omega) I.ok.nd
  refine h B ⟨upd s.H0 p0 o, s.H, s.ps.set nn none⟩ σ D hB st2 ⟨ok2, ?_⟩ C
  have g1 : Rvs cl s (r.set i .u) (σ.set i (some (.ref p0))) := I.sl.set i trivial
  have g2 := Rvs.gone (cl := cl) (nn := nn) (ps' := s.ps.set nn none) (fun j hj => by rw [List.getElem?_set_ne (fun z => hj z.symm)]) ho g1
  have g3 : Rvs cl ⟨upd s.H0 p0 o, s.H, s.ps.set nn none⟩ (r.set i .u) (σ.set i (some (.ref p0))) := by
    have key : ∀ {r : List Sl} {σ : L2.St}, Rvs cl ⟨s.H0, s.H, s.ps.set nn none⟩ r σ → Rvs cl ⟨upd s.H0 p0 o, s.H, s.ps.set nn none⟩ r σ := by
      intro r
      induction r with
      | nil => intro σ h; exact h
      | cons x r ih =>
        rintro σ ⟨v, t, e, q, k⟩
        refine ⟨v, t, e, ?_, ih k⟩
        cases x with
        | u => trivial
        | d x =>
          obtain ⟨u, a, b⟩ := q
          exact ⟨u, a, b.mono (Ex.new hq)⟩
        | o n => exact q
    exact key g2
  have g4 := g3.set i (x := .d (owD u)) (u := some (.ref p0)) ⟨_, rfl, h2⟩
  rw [List.set_set, List.set_set] at g4
  have g5 : σ.set i (some (.ref p0)) = σ := by
    apply List.ext_getElem?
    intro j
    by_cases z : i = j
    · subst z
      rw [e1, List.getElem?_set_self (List.getElem?_eq_some_iff.mp e1).1]
    · rw [List.getElem?_set_ne z]
  rw [g5] at g4
  exact g4
/-- return of an owned object -/
theorem ws_retO (i nn : Nat) {u : Ow} (hr : r[i]? = some (.o nn)) (hw : w[nn]? = some u) (hu : plO u = true) (hm : m ≤ nn) (k : F.rt (.d (owD u)) (w.set nn .gone)) (hN : X.N[i]? = some n := by rfl) (hv : Vis X.env.scope n := by first | exact Or.inl rfl | exact Or.inr (Or.inl rfl))
    (hd : (n == ("__debug__" : Str)) = false := by decide) (hcd : (n == ("__classdict__" : Str)) = false := by decide) : WS cl X m r w (.Return (some (.Name n p)) pos) F := fun B s σ D hB st I C => by
  obtain ⟨v, e1, p0, e2, e3⟩ := I.sl.get hr
  subst e3
  obtain ⟨o, h1, h2⟩ := own_R (I.ok.own_at e2 hw) hu
  have hq := (I.ok.own (mem_ps e2)).1
  refine ⟨_, ps_ret (pe_var hN hv hd hcd), .ref p0, e1, ?_⟩
  exact C.rt ⟨upd s.H0 p0 o, s.H, s.ps.set nn none⟩ _ (.d (owD u)) _ (st.own_gone (o := o) hq e2 (by omega) I.ok.nd) (I.ok.own_gone e2 h1) ⟨_, rfl, h2⟩ k

/-! ### loops -/
theorem ws_for {it : Expr} {body : List Stmt} (hp : PassesOwn (model X.prog X.w) X.A X.env X.xe) (hc : X.calm = true) (hi : WI cl X r w tg it ds) (P : Nat → List Sl → List Ow → Prop) (h0 : P 0 r w)
    (hs : ∀ i x r1 w1, ds[i]? = some x → P i r1 w1 → ∃ r2 js, WG cl X r1 w1 tg x js r2 ∧ WSs cl X w.length r2 w1 body { nx := fun r3 w3 => ∃ r4, Sub r4 r3 ∧ P (i + 1) r4 w3, ct := fun r3 w3 => ∃ r4, Sub r4 r3 ∧ P (i + 1) r4 w3, bk := F.nx, rt := F.rt })
    (hd : ∀ r1 w1, P ds.length r1 w1 → F.nx r1 w1) (hfs : ∀ x, foldedSetIterable it X.env x = pure x := by intro _; rfl) : WS cl X m r w (.For tg it body [] pos) F := fun B s σ D hm st I C => by
  refine ⟨_, ps_for hp hc sI sG sSs hfs, hi s σ I _ fun J s1 st1 ok1 itd => ?_⟩
  have stB := st.trans st1
  refine ⟨fun i k σ' H => k = ds.length - i ∧ i ≤ ds.length ∧ ∃ sx r1 w1, sx.H = H ∧ Step s1 sx ∧ Env X.K cl sx σ' r1 w1 ∧ P i r1 w1, ⟨ds.length, by simp, Nat.zero_le _, s1, r, w, rfl, .refl _, I.step st1 ok1, h0⟩, ?_⟩
  rintro i k σ' H ⟨rfl, hi', sx, r1, w1, rfl, stx, Ix, hp⟩
  by_cases hlt : i < ds.length
  · have hx : ds[i]? = some ds[i] := List.getElem?_eq_getElem hlt
    obtain ⟨go, yl⟩ := itd.item i ds[i] sx stx Ix.ok.lk hx
    refine .inr ⟨go, fun σ2 H2 => ∃ sx r1 w1, sx.H = H2 ∧ Step s1 sx ∧ Env X.K cl sx σ2 r1 w1 ∧ P (i + 1) r1 w1, fun σ2 H2 ⟨sx, r1, w1, e, q⟩ => ⟨ds.length - (i + 1), by omega, rfl, hlt, sx, r1, w1, e, q⟩, fun v H' y => ?_⟩
    obtain ⟨sy, rfl, sty, oky, rv⟩ := yl v H' y
    have Iy := Ix.step sty (oky _ Ix.ok)
    obtain ⟨r2, js, hg, hb⟩ := hs i _ r1 w1 hx hp
    refine hg sy σ' v Iy rv _ fun σ2 k2 l2 c2 => ?_
    refine hb s1 sy σ2 _ ok1.len (stx.trans sty) ⟨Iy.ok, k2⟩ ⟨?_, ?_, ?_, ?_⟩
    · rintro s3 σ3 r3 w3 st3 I3 ⟨r4, q1, q2⟩
      exact ⟨s3, r4, w3, rfl, st3, I3.sub q1, q2⟩
    · exact fun s3 v3 x3 w3 st3 ok3 rv3 q => C.rt s3 v3 x3 w3 (stB.trans st3) ok3 rv3 q
    · exact fun s3 σ3 r3 w3 st3 I3 q => C.nx s3 σ3 r3 w3 (stB.trans st3) I3 q
    · rintro s3 σ3 r3 w3 st3 I3 ⟨r4, q1, q2⟩
      exact ⟨s3, r4, w3, rfl, st3, I3.sub q1, q2⟩
  · have e : i = ds.length := by omega
    subst e
    exact .inl ⟨itd.stop sx stx Ix.ok.lk, C.nx sx σ' r1 w1 (stB.trans stx) Ix (hd r1 w1 hp)⟩
theorem ws_while {body : List Stmt} (hp : PassesOwn (model X.prog X.w) X.A X.env X.xe) (P : Nat → List Sl → List Ow → Prop) (m0 : Nat) (h0 : P m0 r w)
    (hs : ∀ k r1 w1, P k r1 w1 → ∃ t, WT cl X r1 w1 c t ∧ (t = true → WSs cl X m r1 w1 body { nx := fun r3 w3 => ∃ k' r4, k' < k ∧ Sub r4 r3 ∧ P k' r4 w3, ct := fun r3 w3 => ∃ k' r4, k' < k ∧ Sub r4 r3 ∧ P k' r4 w3, bk := F.nx, rt := F.rt }) ∧ (t = false → F.nx r1 w1)) : WS cl X m r w (.While c body [] pos) F := fun B s σ D hm st I C => by
  refine ⟨_, ps_while hp sT sSs, fun k σ' H => ∃ sx r1 w1, sx.H = H ∧ Step B sx ∧ Env X.K cl sx σ' r1 w1 ∧ P k r1 w1, ⟨m0, s, r, w, rfl, st, I, h0⟩, ?_⟩
  rintro k σ' H ⟨sx, r1, w1, rfl, stx, Ix, hp⟩
  obtain ⟨t, h1, h2, h3⟩ := hs k r1 w1 hp
  refine h1 sx σ' Ix _ fun s1 st1 ok1 => ?_
  cases t with
  | false =>
    rw [if_neg Bool.false_ne_true]
    exact C.nx s1 σ' r1 w1 (stx.trans st1) (Ix.step st1 ok1) (h3 rfl)
  | true =>
    rw [if_pos rfl]
    refine ⟨fun σ2 H2 => ∃ k', k' < k ∧ ∃ sx r1 w1, sx.H = H2 ∧ Step B sx ∧ Env X.K cl sx σ2 r1 w1 ∧ P k' r1 w1, fun σ2 H2 h => h, ?_⟩
    refine h2 rfl B s1 σ' _ hm (stx.trans st1) (Ix.step st1 ok1) ⟨?_, C.rt, C.nx, ?_⟩
    · rintro s3 σ3 r3 w3 st3 I3 ⟨k', r4, q0, q1, q2⟩
      exact ⟨k', q0, s3, r4, w3, rfl, st3, I3.sub q1, q2⟩
    · rintro s3 σ3 r3 w3 st3 I3 ⟨k', r4, q0, q1, q2⟩
      exact ⟨k', q0, s3, r4, w3, rfl, st3, I3.sub q1, q2⟩
end

/-! ### defs -/
/-- a pure def: from data that pre holds of, the datum val of them -/
def spP (K : PySem.W.Frag) (cl : Nat → Addr) (pre : List D → Prop) (val : List D → D) : Sp := fun vs H Q _ => ∃ (s : Sta) (ds : List D), s.H = H ∧ s.ps = [] ∧ Lk s.H0 s.H ∧ Rs cl s.H0 ds vs ∧ pre ds ∧ ∀ v s', Step s s' → Lk s'.H0 s'.H → R cl s'.H0 (val ds) v → Q v s'.H
theorem Ok.none {K : PySem.W.Frag} {cl : Nat → Addr} {s : Sta} (h : s.ps = []) (l : Lk s.H0 s.H) : Ok K cl s [] := ⟨l, fun i j p e _ => by rw [h] at e; simp at e, by rw [h]; rfl, fun n p o e _ => by rw [h] at e; simp at e, fun n p q e => by simp at e⟩
section
variable {P : Program} {W : World} {K : PySem.W.Frag} {mg : Str → Option Value} {base : Heap} {cl : Nat → Addr} {name qual : Str} {params : Arguments} {body : List Stmt} {scope : Scope} {f : Addr} {fd : FuncData} {N ps : List Str} {k : Nat} {pre : List D → Prop} {val : List D → D}
abbrev Xd (P : Program) (W : World) (K : PySem.W.Frag) (mg : Str → Option Value) (base : Heap) (N : List Str) (qual : Str) (scope : Scope) (f : Addr) (cdv : Value) (A : Around) (outer : List PySem.Env) (s : Shared) (H : Hp) (E : XK) : Cx := (cxOf CX0 P W K mg base N qual scope f cdv A outer s H E).nox
/-- THE RULE for a pure def -/
theorem fn_pure (F : FunD K name qual params body scope [] [] f fd) (S : FnScope N ps scope) (hl : ∀ ds, pre ds → ds.length = ps.length)
    (hb : ∀ cdv A outer s H E, Room k (Xd P W K mg base N qual scope f cdv A outer s H E).A → ∀ ds, pre ds →
      WSs cl (Xd P W K mg base N qual scope f cdv A outer s H E) 0 (ds.map Sl.d ++ List.replicate (N.length - ds.length) .u) [] body { nx := fun _ _ => val ds = .non, rt := fun x _ => x = .d (val ds) }) : FnOk P W K mg base CX0 (k + 1) f fd ps (spP K cl pre val) := by
  refine F.ok S (fun vs H Q E h => ?_) (fun cdv A outer s H vs Q E hr h => ?_)
  · obtain ⟨s, ds, _, _, _, rs, hp, _⟩ := h
    rw [rs.length]
    exact hl ds hp
  · obtain ⟨s0, ds, rfl, hps, lk, rs, hp, q⟩ := h
    have key := hb cdv A outer s s0.H E hr ds hp
    refine ⟨_, PSs.nox sSs, ?_⟩
    refine key s0 s0 (L2.start N vs) _ (by rw [hps]; rfl) (.refl s0) ⟨Ok.none hps lk, ?_⟩ ⟨?_, ?_, ?_, ?_⟩
    · unfold L2.start
      rw [rs.length]
      exact (Rvs.ds rs).append (Rvs.us _ _)
    · intro s1 σ1 r1 w1 st1 I1 e
      exact q .non s1 st1 I1.ok.lk (by rw [e]; rfl)
    · intro s1 v x1 w1 st1 ok1 rv e
      rw [e] at rv
      obtain ⟨u, e1, e2⟩ := rv
      cases e1
      exact q v s1 st1 ok1.lk e2
    · exact fun _ _ _ _ _ _ h => h.elim
    · exact fun _ _ _ _ _ _ h => h.elim
/-- a def that callers may call by its name n -/
def Cal (P : Program) (W : World) (K : PySem.W.Frag) (mg : Str → Option Value) (base : Heap) (CX : CXT) (k : Nat) (n : Str) (ps : List Str) (sp : Sp) : Prop :=
  ∃ f fd, FnOk P W K mg base CX k f fd ps sp ∧ mg n = some (.ref f) ∧ PySem.W.keepIn K (.ref f) = true ∧ Binds K fd ps []
/-- a method of the class at C -/
def MCal (P : Program) (W : World) (K : PySem.W.Frag) (mg : Str → Option Value) (base : Heap) (CX : CXT) (k : Nat) (C : Addr) (n : Str) (ps : List Str) (sp : Sp) : Prop :=
  ∃ f fd, FnOk P W K mg base CX k f fd ps sp ∧ Cls K C ∧ Meth K C n f ∧ Binds K fd ps []
/-- a class that is made -/
def KCal (P : Program) (W : World) (K : PySem.W.Frag) (mg : Str → Option Value) (base : Heap) (CX : CXT) (k : Nat) (C : Addr) (n : Str) (ps : List Str) (sp : Sp) : Prop :=
  ∃ f fd, FnOk P W K mg base CX k f fd ps sp ∧ mg n = some (.ref C) ∧ Mk K C f ∧ Binds K fd ps []
end
section
variable {cl : Nat → Addr} {X : Cx} {m : Nat} {r : List Sl} {w : List Ow} {e a b c tg : Expr} {d x y z : D} {pos p p2 : Pos} {n : Str} {es : List Expr} {ds : List D} {k : Nat} {f : Addr} {fd : FuncData} {ps : List Str} {pre : List D → Prop} {val : List D → D} {CX : CXT}
theorem call_pure (s : Sta) {vs : List V} {Q : VK} {E : XK} (ok : Ok X.K cl s w) (rs : Rs cl s.H0 ds vs) (hp : pre ds) (q : ∀ v s', Step s s' → Ok X.K cl s' w → R cl s'.H0 (val ds) v → Q v s'.H) : spP X.K cl pre val vs s.H Q E :=
  ⟨⟨s.H0, s.H, []⟩, ds, rfl, rfl, ok.lk, rs, hp, fun v s' st lk rv => q v ⟨s'.H0, s'.H, s.ps⟩ st.over (ok.over lk st) rv⟩
/-- f(e, ..) -/
theorem wp_fn {k' : Nat} (F : Cal X.prog X.w X.K X.mg X.base CX k n ps (spP X.K cl pre val)) (hr : Room k' X.A) (hk : k ≤ k') (ha : WAp cl X r w (e :: es) ds) (hp : pre ds) {E : XK} (hx : Passes CX X E) (hg : Gl X n := by rfl) (hdb : (n == ("__debug__" : Str)) = false := by decide)
    (he : starEach (e :: es) X.env = (false, eval e X.env) :: starEach es X.env := by rfl) (hpl : (backTo pos (starEach es X.env)).any (·.1) = false := by rfl) : WP cl X r w (.Call (.Name n p) (e :: es) [] pos) (val ds) := fun s σ I Q q => by
  obtain ⟨f, fd, F, hm, hkp, hb⟩ := F
  exact ⟨_, pe_call F (hr.mono hk) hg hm hkp hb .nil hx sA hdb he hpl, ha s σ I _ fun vs s1 st ok rs => by
    rw [List.append_nil]
    exact call_pure s1 ok rs hp fun v s2 st2 ok2 rv => q v s2 (st.trans st2) ok2 rv⟩
theorem meth_pure {C : Nat} {fs : List Str} {ys : List D} (s : Sta) {v : V} (ok : Ok X.K cl s w) (rv : R cl s.H0 (.obj C fs ys) v) (nm : n ∉ fs) {Q : Addr → Addr → List (Str × V) → Prop} (h : ∀ a dx gs, v = .ref a → s.H a = some (.ins (cl C) dx gs) → gs.lookup n = none → Q a dx gs) : ∃ a dx gs, v = .ref a ∧ s.H a = some (.ins (cl C) dx gs) ∧ gs.lookup n = none ∧ Q a dx gs := by
  obtain ⟨a, dx, vs, rfl, h1, h2, h3⟩ := rv
  have hl : (fs.zip vs).lookup n = none := by
    clear h1 h2 h3
    induction fs generalizing vs with
    | nil => rfl
    | cons g fs ih =>
      cases vs with
      | nil => rfl
      | cons v vs =>
        rw [List.zip_cons_cons, List.lookup_cons]
        have : (n == g) = false := by
          have : n ≠ g := fun z => nm (by rw [z]; exact List.mem_cons_self)
          simpa using this
        rw [this]
        exact ih (fun z => nm (List.mem_cons_of_mem _ z)) vs
  have h1' := ok.lk.pl h1 (fun q z => by cases z)
  exact ⟨a, dx, _, rfl, h1', hl, h a dx _ rfl h1' hl⟩
/-- o.m() -/
theorem wp_meth0 {k' C : Nat} {fs : List Str} {ys : List D} {apos : Pos} {pl : Sem Bool} (F : MCal X.prog X.w X.K X.mg X.base CX k (cl C) n ps (spP X.K cl pre val)) (hr : Room k' X.A) (hk : k ≤ k') (ha : WP cl X r w a (.obj C fs ys)) (nm : n ∉ fs) (hp : pre [.obj C fs ys]) {E : XK} (hx : Passes CX X E)
    (hc : eval (.Call (.Attribute a n apos) [] [] pos) X.env = (do
      let ov ← eval a X.env
      standAt apos.atName
      let (f, first) ← holding [ov] (getMethod ov n pl)
      callWith pos f first (backTo pos (starEach [] X.env)) (backToKw pos (keywordEach [] X.env))) := by rfl) : WP cl X r w (.Call (.Attribute a n apos) [] [] pos) (val [.obj C fs ys]) := fun s σ I Q q => by
  obtain ⟨f, fd, F, c, hm, hb⟩ := F
  refine ⟨_, pe_meth0 sE c hm F (hr.mono hk) hb .nil hx hc, ha s σ I _ fun v s1 st ok rv => ?_⟩
  refine meth_pure s1 ok rv nm fun a dx gs e1 e2 e3 => ?_
  subst e1
  show spP X.K cl pre val (.ref a :: ([] ++ [])) s1.H Q E
  exact call_pure s1 ok (.one rv) hp fun v s2 st2 ok2 rv => q v s2 (st.trans st2) ok2 rv
/-- o.m(e, ..) -/
theorem wp_meth {k' C : Nat} {fs : List Str} {ys : List D} {apos : Pos} {pl : Sem Bool} (F : MCal X.prog X.w X.K X.mg X.base CX k (cl C) n ps (spP X.K cl pre val)) (hr : Room k' X.A) (hk : k ≤ k') (ho : WP cl X r w a (.obj C fs ys)) (ha : WAp cl X r w (e :: es) ds) (nm : n ∉ fs) (hp : pre (.obj C fs ys :: ds)) {E : XK} (hx : Passes CX X E)
    (hc : eval (.Call (.Attribute a n apos) (e :: es) [] pos) X.env = (do
      let ov ← eval a X.env
      standAt apos.atName
      let (f, first) ← holding [ov] (getMethod ov n pl)
      callWith pos f first (backTo pos (starEach (e :: es) X.env)) (backToKw pos (keywordEach [] X.env))) := by rfl)
    (he : starEach (e :: es) X.env = (false, eval e X.env) :: starEach es X.env := by rfl) (hpl : (backTo pos (starEach es X.env)).any (·.1) = false := by rfl) : WP cl X r w (.Call (.Attribute a n apos) (e :: es) [] pos) (val (.obj C fs ys :: ds)) := fun s σ I Q q => by
  obtain ⟨f, fd, F, c, hm, hb⟩ := F
  refine ⟨_, pe_meth sE c hm F (hr.mono hk) hb .nil hx sA he hpl hc, ho s σ I _ fun v s1 st ok rv => ?_⟩
  refine meth_pure s1 ok rv nm fun a dx gs e1 e2 e3 => ?_
  subst e1
  exact ha s1 σ (I.step st ok) _ fun vs s2 st2 ok2 rs => by
    rw [List.append_nil]
    exact call_pure s2 ok2 (.cons (rv.mono st2.e0) rs) hp fun v s3 st3 ok3 rv3 => q v s3 ((st.trans st2).trans st3) ok3 rv3

/-! ### isinstance -/
theorem wp_isi {T : Str} {T2 : String} {bb : Bool} (B : Bl X.mg) (ha : WP cl X r w a x) (tb : X.mg T = none) (hv : bootBuiltins T = some (.type T2)) {t2 : String} (ht : ∀ (s : Sta) (v : V), Ok X.K cl s w → R cl s.H0 x v → TyX X.K s.H v (.type t2)) (hk : kitB t2 T2 = some bb) (hgT : Gl X T := by rfl) (hg : Gl X "isinstance" := by rfl)
    (he : starEach [a, .Name T p2] X.env = (false, eval a X.env) :: starEach [.Name T p2] X.env := by rfl) (he2 : starEach [.Name T p2] X.env = (false, eval (.Name T p2) X.env) :: starEach [] X.env := by rfl) (hpl : (backTo pos (starEach [.Name T p2] X.env)).any (·.1) = false := by rfl)
    (hn : T ≠ "__name__" := by decide) (hdb : (T == ("__debug__" : Str)) = false := by decide) : WP cl X r w (.Call (.Name "isinstance" p) [a, .Name T p2] [] pos) (.bl bb) := fun s σ I Q q =>
  ⟨_, pe_callB call_isi hg B.isinstance (by decide +kernel) (pa_cons sE (pa_cons (pe_bltn (v := .ty T2) hgT tb hv rfl hn hdb) pa_nil he2) he) (by decide) (by decide) he hpl, ha s σ I _ fun v s1 st ok rv => ⟨v, .ty T2, .type t2, .type T2, bb, rfl, .ty T2, ht s1 v ok rv, kit_ty hk, q _ s1 st ok rfl⟩⟩
end
section
variable {cl : Nat → Addr} {K : PySem.W.Frag} {w : List Ow}
theorem ty_int {i : Int} (s : Sta) (v : V) (ok : Ok K cl s w) (h : R cl s.H0 (.int i) v) : TyX K s.H v (.type "int") := by
  obtain rfl : v = .int i := h
  exact .base (.int i)
theorem ty_tup {ds : List D} (s : Sta) (v : V) (ok : Ok K cl s w) (h : R cl s.H0 (.tup ds) v) : TyX K s.H v (.type "tuple") := by
  obtain ⟨a, vs, rfl, h1, _⟩ := h
  exact .base (.tup (ok.lk.tup h1))
theorem ty_dic {ks : List Int} {ds : List D} (s : Sta) (v : V) (ok : Ok K cl s w) (h : R cl s.H0 (.dic ks ds) v) : TyX K s.H v (.type "dict") := by
  obtain ⟨a, vs, rfl, h1, _⟩ := h
  rcases ok.lk _ _ h1 with z | ⟨_, ob, z⟩
  · exact .base (.dK z)
  · exact .fDict z
end
end FV
/-! The mirror: what the program's defs compute, in plain Lean. Core Lean alone. -/
namespace FV
/-! ### trees -/
def hangAt (h : List Nat) (b : Nat) : Nat := h.getD (b - 1) 0
def leads (h : List Nat) : Nat → Nat → Bool
  | 0, _ => false
  | f + 1, x => if x = 0 then true else leads h f (hangAt h x)
def parentsF (h : List Nat) : Nat → Nat → List Nat
  | 0, _ => []
  | f + 1, x => if x = 0 then [] else hangAt h x :: parentsF h f (hangAt h x)
def blocksOf (n : Nat) : List Nat := (List.range n).map (· + 1)
def hanging (h : List Nat) (p : Nat) : List Nat := (blocksOf h.length).filter fun b => hangAt h b == p
/-- a right tuple for a Tree -/
def treeB (h : List Nat) : Bool := decide (1 ≤ h.length ∧ h.length ≤ 40) && ((blocksOf h.length).all fun b => decide (hangAt h b ≤ h.length) && !(hangAt h b == b)) && (blocksOf h.length).all fun b => leads h (h.length + 1) b
/-! ### tellings -/
def pLe (a b : Nat × Nat) : Bool := decide (a.1 < b.1) || (a.1 == b.1 && decide (a.2 ≤ b.2))
def insP (x : Nat × Nat) : List (Nat × Nat) → List (Nat × Nat)
  | [] => [x]
  | y :: r => if pLe x y then x :: y :: r else y :: insP x r
def sortP : List (Nat × Nat) → List (Nat × Nat)
  | [] => []
  | x :: r => insP x (sortP r)
def layerStep (h : List Nat) (layer : List Nat) : List (Nat × Nat) := layer.flatMap fun x => (hanging h x).map fun b => (b, x)
def tiesL (h : List Nat) : Nat → List Nat → List (Nat × Nat)
  | 0, _ => []
  | k + 1, l => layerStep h l ++ tiesL h k ((layerStep h l).map (·.1))
abbrev Tel := List Nat × List (Nat × Nat)
def rawTel (h : List Nat) (v : Nat × Nat) (p : Nat) : Tel := ((parentsF h h.length p).take v.1, sortP (tiesL h v.2 [p]))
def rawDist (v : Nat × Nat) : Nat := if v.2 > 0 then v.2 + 1 + (if v.1 > 0 then 1 else 0) else if v.1 > 0 then 1 else 0
/-! ### pictures -/
structure Pic where
  view : Nat × Nat
  blocks : Nat
  told : List (Nat × Tel)
def ascP : List (Nat × Nat) → Bool
  | x :: y :: r => pLe x y && !(x == y) && ascP (y :: r)
  | _ => true
/-- a telling's form -/
def formB (v : Nat × Nat) (n p : Nat) (t : Tel) : Bool := decide (t.1.length ≤ if p = 0 then 0 else v.1) && (t.1.all fun x => decide (x ≤ n)) && (t.2.all fun q => decide (1 ≤ q.1 ∧ q.1 ≤ n ∧ q.2 ≤ n)) && ascP t.2
def ascN : List Nat → Bool
  | x :: y :: r => decide (x < y) && ascN (y :: r)
  | _ => true
/-- a right picture, its told keys ascending -/
def picB (P : Pic) : Bool := decide (P.view.1 ≤ 4 ∧ P.view.2 ≤ 4) && decide (1 ≤ P.blocks ∧ P.blocks ≤ 40) && (P.told.all fun q => decide (q.1 ≤ P.blocks) && formB P.view P.blocks q.1 q.2) && ascN (P.told.map (·.1)) && (P.told.map (·.1)).contains 0
def without (P : Pic) (l : List Nat) : Pic := { P with told := P.told.filter fun q => !l.contains q.1 }
def doesFit (P : Pic) (h : List Nat) : Bool := decide (h.length = P.blocks) && P.told.all fun q => rawTel h P.view q.1 == q.2
/-! ### losses -/
def toldTies (P : Pic) : List (Nat × Nat) := P.told.flatMap fun q => q.2.2 ++ (q.1 :: q.2.1).zip q.2.1
def tiesK : List (Nat × Nat) → List (Nat × Nat) → Option (List (Nat × Nat))
  | [], acc => some acc
  | (b, p) :: r, acc => if b = 0 then none else match acc.lookup b with
    | some q => if q = p then tiesK r acc else none
    | none => tiesK r (acc ++ [(b, p)])
def tiesKnown (P : Pic) : Option (List (Nat × Nat)) := tiesK (toldTies P) []
def wayU (ties : List (Nat × Nat)) : Nat → Nat → Option (List Nat)
  | 0, _ => none
  | f + 1, x => match ties.lookup x with
    | none => some [x]
    | some y => (wayU ties f y).map (x :: ·)
structure Ld where
  blocks : Nat
  ties : List (Nat × Nat)
  piece : List Nat
  tops : List Nat
  lots : List (List Nat)
  every : List Nat
def insN (x : Nat) : List Nat → List Nat
  | [] => [x]
  | y :: r => if x ≤ y then x :: y :: r else y :: insN x r
def sortN : List Nat → List Nat
  | [] => []
  | x :: r => insN x (sortN r)
def dedup : List Nat → List Nat → List Nat
  | [], acc => acc
  | x :: r, acc => if acc.contains x then dedup r acc else dedup r (acc ++ [x])
def mkLaid (P : Pic) (ties : List (Nat × Nat)) (ways : List (List Nat)) : Ld :=
  let piece := ways.map fun w => w.getLastD 0
  let tops := sortN (dedup piece [])
  let places := (List.range ways.length).filter fun p => !((ways.getD p []).take P.view.2).any fun x => (P.told.map (·.1)).contains x
  { blocks := P.blocks, ties := ties, piece := piece, tops := tops, lots := tops.map fun t => places.filter fun p => piece.getD p 0 == t, every := places }
def Ld.many (L : Ld) : Nat := if L.tops.length = 1 then 1 else (L.lots.getD 0 []).length * L.every.length ^ (L.tops.length - 2)
def minL : List Nat → Nat
  | [] => 0
  | x :: r => r.foldl min x
/-- the tops and where they hang, as struck -/
def strike (piece : Nat → Nat) : List Nat → List Nat → List (Nat × Nat)
  | [], _ => []
  | p :: r, left => let top := minL (left.filter fun t => !((p :: r).map piece).contains t); (top, p) :: strike piece r (left.filter fun t => !(t == top))
def Ld.hungBy (L : Ld) (notes : List Nat) : List Nat := (blocksOf L.blocks).map fun b => ((L.ties ++ strike (fun x => L.piece.getD x 0) notes (L.tops.drop 1)).lookup b).getD 0
def Ld.digits (L : Ld) : List (List Nat) := if L.tops.length > 1 then List.replicate (L.tops.length - 2) L.every ++ [L.lots.getD 0 []] else []
def allSome : List (Option (List Nat)) → Option (List (List Nat))
  | [] => some []
  | none :: _ => none
  | some x :: r => (allSome r).map (x :: ·)
def waysOf (P : Pic) (ties : List (Nat × Nat)) : Option (List (List Nat)) := allSome ((List.range (P.blocks + 1)).map fun p => wayU ties (P.blocks + 1) p)
def laidOrNone (P : Pic) : Option Ld := match tiesKnown P with
  | none => none
  | some ties => match waysOf P ties with
    | none => none
    | some ways => let L := mkLaid P ties ways
      if L.tops.length > 1 ∧ (L.lots.getD 0 []).length = 0 then none
      else if doesFit P (L.hungBy (L.digits.map fun l => l.getD 0 0)) then some L else none
def notesAt : List (List Nat) → Nat → List Nat
  | [], _ => []
  | l :: r, m => l.getD (m % l.length) 0 :: notesAt r (m / l.length)
def Ld.treeAt (L : Ld) (m : Nat) : List Nat := L.hungBy (notesAt L.digits.reverse m).reverse
/-! ### wrongs -/
def toldBlocks (P : Pic) : List Nat := (P.told.map (·.1)).filter fun p => !(p == 0)
def tellsB (P : Pic) (h : List Nat) (p : Nat) : Bool := (P.told.lookup p).any fun t => t == rawTel h P.view p
def wrongOf (P : Pic) (h : List Nat) : List Nat := (toldBlocks P).filter fun b => !tellsB P h b
def lotsOf (things : List Nat) : Nat → List (List Nat)
  | 0 => [[]]
  | k + 1 => (lotsOf things k).flatMap fun l => (things.filter fun t => l.isEmpty || decide (l.getLastD 0 < t)).map fun t => l ++ [t]
def laidWithout (P : Pic) (k : Nat) : List Ld := ((lotsOf (toldBlocks P) k).map fun l => laidOrNone (without P l)).filterMap id
def mendFrom (P : Pic) : Nat → Nat → Option (List Nat)
  | 0, _ => none
  | f + 1, k => match laidWithout P k with
    | L :: _ => some (L.treeAt 0)
    | [] => mendFrom P f (k + 1)
def room (P : Pic) : Int := (rawDist P.view : Int) - 1 - ((P.blocks : Int) - (toldBlocks P).length)
def mendedOf (P : Pic) : Option (List Nat) := mendFrom P (if room P / 2 < (toldBlocks P).length then room P / 2 + 1 else (toldBlocks P).length + 1 : Int).toNat 0
def nearFrom (P : Pic) : Nat → Nat → Option (Nat × List Ld)
  | 0, _ => none
  | f + 1, k => match laidWithout P k with
    | L :: r => some (k, L :: r)
    | [] => nearFrom P f (k + 1)
def nearLaid (P : Pic) : Option (Nat × List Ld) := nearFrom P ((toldBlocks P).length + 1) 0
def foundOf (Ls : List Ld) : List (List Nat) := Ls.flatMap fun L => (List.range L.many).map L.treeAt
def lexLe : List Nat → List Nat → Bool
  | [], _ => true
  | _ :: _, [] => false
  | x :: r, y :: s => decide (x < y) || (x == y && lexLe r s)
def insL (x : List Nat) : List (List Nat) → List (List Nat)
  | [] => [x]
  | y :: r => if lexLe x y then x :: y :: r else y :: insL x r
def sortL : List (List Nat) → List (List Nat)
  | [] => []
  | x :: r => insL x (sortL r)
/-! ### the law's own -/
def longer (n b : Nat) (rows : List (List Nat)) : List (List Nat) := rows.flatMap fun r => ((List.range (n + 1)).filter fun p => !(p == b)).map fun p => r ++ [p]
def rowsTo (n : Nat) : Nat → List (List Nat)
  | 0 => [[]]
  | b + 1 => longer n (b + 1) (rowsTo n b)
def upOf (h : List Nat) (x : Nat) : Nat := if x > 0 then hangAt h x else 0
def iter (f : Nat → Nat) : Nat → Nat → Nat
  | 0, x => x
  | k + 1, x => iter f k (f x)
def goesHome (h : List Nat) : Bool := (blocksOf h.length).all fun b => iter (upOf h) h.length b == 0
def lTrees (n : Nat) : List (List Nat) := (rowsTo n n).filter goesHome
def lRow (h : List Nat) : Nat → Nat → List Nat
  | 0, _ => []
  | k + 1, x => if x = 0 then lRow h k x else hangAt h x :: lRow h k (hangAt h x)
def lStep (h : List Nat) (layer : List Nat) : List (Nat × Nat) := ((blocksOf h.length).filter fun b => layer.contains (hangAt h b)).map fun b => (b, hangAt h b)
def lTies (h : List Nat) : Nat → List Nat → List (Nat × Nat)
  | 0, _ => []
  | k + 1, l => lStep h l ++ lTies h k ((lStep h l).map (·.1))
def lTel (h : List Nat) (v : Nat × Nat) (p : Nat) : Tel := (lRow h v.1 p, sortP (lTies h v.2 [p]))
def lBad (told : List (Nat × Tel)) (v : Nat × Nat) (h : List Nat) : List Nat := (told.filter fun q => !(lTel h v q.1 == q.2)).map (·.1)
def lDue (trees : List (List Nat)) (v : Nat × Nat) (told : List (Nat × Tel)) : Option Nat × List (List Nat) :=
  let found := ((trees.map fun h => ((lBad told v h), h)).filter fun q => !q.1.contains 0).map fun q => (q.1.length, q.2)
  if found.isEmpty then (none, []) else
    let least := minL (found.map (·.1))
    (some least, sortL ((found.filter fun q => q.1 == least).map (·.2)))
end FV
set_option Elab.async false
set_option linter.all false
set_option maxRecDepth 100000
set_option maxHeartbeats 2000000
/-! The data layer, part F: the data of this program; rules in natural numbers. -/
namespace FV
open PySem PySem.Spec PyProof.Rows L2

abbrev eN (n : Nat) : D := .int (n : Int)
abbrev eNs (l : List Nat) : D := .tup (l.map eN)
abbrev lNs (l : List Nat) : D := .lst (l.map eN)
abbrev eP (p : Nat × Nat) : D := .tup [eN p.1, eN p.2]
abbrev eT (t : Tel) : D := .tup [eNs t.1, .tup (t.2.map eP)]
abbrev eD {β : Type} (enc : β → D) (t : List (Nat × β)) : D := .dic (t.map fun q => (q.1 : Int)) (t.map fun q => enc q.2)
abbrev eTree (h : List Nat) : D := .obj 0 ["hung"] [eNs h]
abbrev ePic (P : Pic) : D := .obj 1 ["view", "blocks", "told"] [eP P.view, eN P.blocks, eD eT P.told]
abbrev eLd (L : Ld) : D := .obj 2 ["blocks", "ties", "piece", "tops", "lots", "every"] [eN L.blocks, eD eN L.ties, eD eN ((List.range L.piece.length).zip L.piece), lNs L.tops, .lst (L.lots.map eNs), eNs L.every]
theorem rng0 (n : Nat) : rng 0 n = (List.range n).map eN := by
  unfold rng
  apply List.map_congr_left
  intro i _
  show D.int (0 + (i : Int)) = D.int i
  rw [Int.zero_add]
theorem rng1 (n : Nat) : rng 1 n = (blocksOf n).map eN := by
  unfold rng blocksOf
  rw [List.map_map]
  apply List.map_congr_left
  intro i _
  show D.int (1 + (i : Int)) = D.int ((i + 1 : Nat) : Int)
  congr 1
  omega
theorem ints_of (l : List Nat) : l.map eN = (l.map Int.ofNat).map D.int := by
  rw [List.map_map]
  rfl
theorem mem_ints {i : Nat} {l : List Nat} : (i : Int) ∈ l.map Int.ofNat ↔ i ∈ l := by
  rw [List.mem_map]
  constructor
  · rintro ⟨j, h, e⟩
    have : j = i := Int.ofNat.inj e
    exact this ▸ h
  · exact fun h => ⟨i, h, rfl⟩
theorem dlook_eD {β : Type} {enc : β → D} (k : Nat) : ∀ t : List (Nat × β), dlook (t.map fun q => (q.1 : Int)) (t.map fun q => enc q.2) k = (t.lookup k).map enc
  | [] => rfl
  | (j, x) :: t => by
    show (if (j : Int) = (k : Int) then some (enc x) else dlook _ _ _) = _
    rw [dlook_eD k t, List.lookup_cons]
    by_cases h : j = k
    · subst h
      rw [if_pos rfl]
      simp
    · rw [if_neg (by omega)]
      have : (k == j) = false := by simpa using fun z => h z.symm
      rw [this]
section
variable {cl : Nat → Addr} {X : Cx} {r : List Sl} {w : List Ow} {e a b c tg : Expr} {d x y z : D} {pos p p2 : Pos} {n : Str} {es : List Expr} {ds : List D} {i j : Nat} {β : Type} {enc : β → D} {xs : List β}
theorem wp_k (k : Nat) {jj p} : WP cl X r w (.Constant (.int (k : Int)) jj p) (eN k) := wp_int
theorem wp_addN (ha : WP cl X r w a (eN i)) (hb : WP cl X r w b (eN j)) : WP cl X r w (.BinOp a .Add b pos) (eN (i + j)) := wp_add ha hb
theorem wp_subN (ha : WP cl X r w a (eN i)) (hb : WP cl X r w b (eN j)) (h : j ≤ i) : WP cl X r w (.BinOp a .Sub b pos) (eN (i - j)) := wp_is (wp_sub ha hb) (by show D.int _ = D.int _; congr 1; omega)
theorem wt_ltN (ha : WP cl X r w a (eN i)) (hb : WP cl X r w b (eN j)) : WT cl X r w (.Compare a [.Lt] [b] pos) (decide (i < j)) := wt_is (wt_lt ha hb) (by simp)
theorem wt_leN (ha : WP cl X r w a (eN i)) (hb : WP cl X r w b (eN j)) : WT cl X r w (.Compare a [.LtE] [b] pos) (decide (i ≤ j)) := wt_is (wt_le ha hb) (by simp)
theorem wt_gtN (ha : WP cl X r w a (eN i)) (hb : WP cl X r w b (eN j)) : WT cl X r w (.Compare a [.Gt] [b] pos) (decide (j < i)) := wt_is (wt_gt ha hb) (by simp)
theorem wt_eqN (ha : WP cl X r w a (eN i)) (hb : WP cl X r w b (eN j)) : WT cl X r w (.Compare a [.Eq] [b] pos) (decide (i = j)) := wt_is (wt_eq ha hb) (decide_eq_decide.mpr (by show (i : Int) = (j : Int) ↔ i = j; omega))
theorem wt_neN (ha : WP cl X r w a (eN i)) (hb : WP cl X r w b (eN j)) : WT cl X r w (.Compare a [.NotEq] [b] pos) (!decide (i = j)) := wt_is (wt_ne ha hb) (by congr 1; exact decide_eq_decide.mpr (by show (i : Int) = (j : Int) ↔ i = j; omega))
theorem wp_lenTm (B : Bl X.mg) (ha : WP cl X r w a (.tup (xs.map enc))) (hg : Gl X "len" := by rfl) (he : starEach [a] X.env = (false, eval a X.env) :: starEach [] X.env := by rfl) (hpl : (backTo pos (starEach [] X.env)).any (·.1) = false := by rfl) : WP cl X r w (.Call (.Name "len" p) [a] [] pos) (eN xs.length) :=
  wp_is (wp_lenT B ha hg he hpl) (by rw [List.length_map])
theorem wp_lenLm (B : Bl X.mg) (ha : WP cl X r w a (.lst (xs.map enc))) (hg : Gl X "len" := by rfl) (he : starEach [a] X.env = (false, eval a X.env) :: starEach [] X.env := by rfl) (hpl : (backTo pos (starEach [] X.env)).any (·.1) = false := by rfl) : WP cl X r w (.Call (.Name "len" p) [a] [] pos) (eN xs.length) :=
  wp_is (wp_lenL B ha hg he hpl) (by rw [List.length_map])
theorem at_map {k : Nat} {x : β} (h : xs[k]? = some x) : L2.atI (xs.map enc) (k : Int) = some (enc x) := at_nat (by rw [List.getElem?_map, h]; rfl)
theorem wp_ixTm {k : Nat} {x : β} (ha : WP cl X r w a (.tup (xs.map enc))) (hb : WP cl X r w b (eN k)) (h : xs[k]? = some x) (hs : PlainIx b := by exact fun _ _ => rfl) : WP cl X r w (.Subscript a b pos) (enc x) := wp_ixT ha hb (at_map h) hs
theorem wp_ixLm {k : Nat} {x : β} (ha : WP cl X r w a (.lst (xs.map enc))) (hb : WP cl X r w b (eN k)) (h : xs[k]? = some x) (hs : PlainIx b := by exact fun _ _ => rfl) : WP cl X r w (.Subscript a b pos) (enc x) := wp_ixL ha hb (at_map h) hs
theorem hang_get {h : List Nat} (h1 : 1 ≤ j) (h2 : j ≤ h.length) : h[j - 1]? = some (hangAt h j) := by
  unfold hangAt
  rw [List.getD_eq_getElem?_getD, List.getElem?_eq_getElem (by omega)]
  rfl
/-- hung[block - 1] -/
theorem wp_hang {h : List Nat} {jj : Nat} {p3 : Pos} (ha : WP cl X r w a (eNs h)) (hb : WP cl X r w b (eN j)) (h1 : 1 ≤ j) (h2 : j ≤ h.length) (hs : PlainIx (.BinOp b .Sub (.Constant (.int 1) jj p2) p3) := by exact fun _ _ => rfl) : WP cl X r w (.Subscript a (.BinOp b .Sub (.Constant (.int 1) jj p2) p3) pos) (eN (hangAt h j)) :=
  wp_ixTm ha (wp_subN hb (wp_k 1) h1) (hang_get h1 h2) hs
theorem wi_is {ds es : List D} {it : Expr} (h : WI cl X r w tg it ds) (e : ds = es) : WI cl X r w tg it es := e ▸ h
theorem wi_range (B : Bl X.mg) (h : WP cl X r w a (eN i)) (hi : i ≤ 100000) (hg : Gl X "range" := by rfl) (hs : starEach [a] X.env = [(false, eval a X.env)] := by rfl) : WI cl X r w tg (.Call (.Name "range" p) [a] [] pos) ((List.range i).map eN) :=
  wi_is (wi_r1 B h (by omega) hg hs) (by rw [Int.toNat_natCast, rng0])
/-- range(1, n + 1) -/
theorem wi_blocks (B : Bl X.mg) (h : WP cl X r w a (eN 1)) (h' : WP cl X r w b (eN (i + 1))) (hi : i ≤ 1000) (hg : Gl X "range" := by rfl) (hs : starEach [a, b] X.env = [(false, eval a X.env), (false, eval b X.env)] := by rfl) (hs2 : starEach [b] X.env = [(false, eval b X.env)] := by rfl) : WI cl X r w tg (.Call (.Name "range" p) [a, b] [] pos) ((blocksOf i).map eN) :=
  wi_is (wi_r2 B h h' (by omega) hg hs hs2) (by rw [show (((i + 1 : Nat) : Int) - ((1 : Nat) : Int)).toNat = i by omega]; exact rng1 i)
theorem wt_inLN {l : List Nat} (ha : WP cl X r w a (eN i)) (hb : WP cl X r w b (lNs l)) (hm : behindInMarks .In b = false := by rfl) : WT cl X r w (.Compare a [.In] [b] pos) (l.contains i) := wt_is (wt_inL (ns := l.map Int.ofNat) ha (wp_is hb (congrArg D.lst (ints_of l))) hm) (by rw [List.contains_eq_mem]; exact decide_eq_decide.mpr mem_ints)
theorem wt_niLN {l : List Nat} (ha : WP cl X r w a (eN i)) (hb : WP cl X r w b (lNs l)) (hm : behindInMarks .NotIn b = false := by rfl) : WT cl X r w (.Compare a [.NotIn] [b] pos) (!l.contains i) := wt_is (wt_niL (ns := l.map Int.ofNat) ha (wp_is hb (congrArg D.lst (ints_of l))) hm) (by rw [List.contains_eq_mem]; congr 1; exact decide_eq_decide.mpr mem_ints)
theorem wt_niTN {l : List Nat} (ha : WP cl X r w a (eN i)) (hb : WP cl X r w b (eNs l)) (hm : behindInMarks .NotIn b = false := by rfl) : WT cl X r w (.Compare a [.NotIn] [b] pos) (!l.contains i) := wt_is (wt_niT (ns := l.map Int.ofNat) ha (wp_is hb (congrArg D.tup (ints_of l))) hm) (by rw [List.contains_eq_mem]; congr 1; exact decide_eq_decide.mpr mem_ints)
theorem wp_dgetN {k kk : Nat} {t : List (Nat × β)} {x : β} (hr : Room kk X.A) (ha : WP cl X r w a (eD enc t)) (hb : WP cl X r w b (eN k)) (h : t.lookup k = some x) (hs : NoSl b := by exact fun _ _ => rfl) : WP cl X r w (.Subscript a b pos) (enc x) := wp_dget hr ha hb (by rw [dlook_eD, h]; rfl) hs
theorem wt_dinN {k kk : Nat} {t : List (Nat × β)} (hr : Room kk X.A) (ha : WP cl X r w a (eN k)) (hb : WP cl X r w b (eD enc t)) (hm : behindInMarks .In b = false := by rfl) : WT cl X r w (.Compare a [.In] [b] pos) (t.lookup k).isSome := wt_is (wt_din hr ha hb hm) (by rw [dlook_eD]; cases t.lookup k <;> rfl)
theorem wt_dniN {k kk : Nat} {t : List (Nat × β)} (hr : Room kk X.A) (ha : WP cl X r w a (eN k)) (hb : WP cl X r w b (eD enc t)) (hm : behindInMarks .NotIn b = false := by rfl) : WT cl X r w (.Compare a [.NotIn] [b] pos) (!(t.lookup k).isSome) := wt_is (wt_dnotin hr ha hb hm) (by rw [dlook_eD]; cases t.lookup k <;> rfl)
theorem wp_dinN {k kk : Nat} {t : List (Nat × β)} (hr : Room kk X.A) (ha : WP cl X r w a (eN k)) (hb : WP cl X r w b (eD enc t)) (hm : behindInMarks .In b = false := by rfl) : WP cl X r w (.Compare a [.In] [b] pos) (.bl (t.lookup k).isSome) := wp_is (wp_din hr ha hb hm) (by rw [dlook_eD]; cases t.lookup k <;> rfl)
theorem wp_isi_int (B : Bl X.mg) {i : Int} (ha : WP cl X r w a (.int i)) (hgT : Gl X "int" := by rfl) (hg : Gl X "isinstance" := by rfl)
    (he : starEach [a, .Name "int" p2] X.env = (false, eval a X.env) :: starEach [.Name "int" p2] X.env := by rfl) (he2 : starEach [.Name "int" p2] X.env = (false, eval (.Name "int" p2) X.env) :: starEach [] X.env := by rfl) (hpl : (backTo pos (starEach [.Name "int" p2] X.env)).any (·.1) = false := by rfl) : WP cl X r w (.Call (.Name "isinstance" p) [a, .Name "int" p2] [] pos) (.bl true) :=
  wp_isi (T2 := "int") B ha B.int (by decide +kernel) ty_int (by decide +kernel) hgT hg he he2 hpl
theorem wp_isi_bool (B : Bl X.mg) {i : Int} (ha : WP cl X r w a (.int i)) (hgT : Gl X "bool" := by rfl) (hg : Gl X "isinstance" := by rfl)
    (he : starEach [a, .Name "bool" p2] X.env = (false, eval a X.env) :: starEach [.Name "bool" p2] X.env := by rfl) (he2 : starEach [.Name "bool" p2] X.env = (false, eval (.Name "bool" p2) X.env) :: starEach [] X.env := by rfl) (hpl : (backTo pos (starEach [.Name "bool" p2] X.env)).any (·.1) = false := by rfl) : WP cl X r w (.Call (.Name "isinstance" p) [a, .Name "bool" p2] [] pos) (.bl false) :=
  wp_isi (T2 := "bool") B ha B.bool (by decide +kernel) ty_int (by decide +kernel) hgT hg he he2 hpl
theorem wp_isi_tup (B : Bl X.mg) (ha : WP cl X r w a (.tup ds)) (hgT : Gl X "tuple" := by rfl) (hg : Gl X "isinstance" := by rfl)
    (he : starEach [a, .Name "tuple" p2] X.env = (false, eval a X.env) :: starEach [.Name "tuple" p2] X.env := by rfl) (he2 : starEach [.Name "tuple" p2] X.env = (false, eval (.Name "tuple" p2) X.env) :: starEach [] X.env := by rfl) (hpl : (backTo pos (starEach [.Name "tuple" p2] X.env)).any (·.1) = false := by rfl) : WP cl X r w (.Call (.Name "isinstance" p) [a, .Name "tuple" p2] [] pos) (.bl true) :=
  wp_isi (T2 := "tuple") B ha B.tuple (by decide +kernel) ty_tup (by decide +kernel) hgT hg he he2 hpl
theorem wp_isi_dic (B : Bl X.mg) {ks : List Int} (ha : WP cl X r w a (.dic ks ds)) (hgT : Gl X "dict" := by rfl) (hg : Gl X "isinstance" := by rfl)
    (he : starEach [a, .Name "dict" p2] X.env = (false, eval a X.env) :: starEach [.Name "dict" p2] X.env := by rfl) (he2 : starEach [.Name "dict" p2] X.env = (false, eval (.Name "dict" p2) X.env) :: starEach [] X.env := by rfl) (hpl : (backTo pos (starEach [.Name "dict" p2] X.env)).any (·.1) = false := by rfl) : WP cl X r w (.Call (.Name "isinstance" p) [a, .Name "dict" p2] [] pos) (.bl true) :=
  wp_isi (T2 := "dict") B ha B.dict (by decide +kernel) ty_dic (by decide +kernel) hgT hg he he2 hpl
end
end FV
set_option Elab.async false
set_option linter.all false
set_option maxRecDepth 100000
set_option maxHeartbeats 2000000
/-! The data layer, part G: data compared, ordered, sorted. -/
namespace FV
open PySem PySem.Spec PyProof.Rows L2

mutual
def pyD : D → PyData
  | .non => .none
  | .bl b => .bool b
  | .int i => .int i
  | .str x => .str x
  | .tup xs => .tuple (pyDs xs)
  | .lst xs => .list (pyDs xs)
  | .dic _ _ => .none
  | .obj _ _ _ => .none
def pyDs : List D → List PyData
  | [] => []
  | x :: xs => pyD x :: pyDs xs
end
mutual
/-- no dict, no object; written texts alone -/
def plainD : D → Bool
  | .dic _ _ => false
  | .obj _ _ _ => false
  | .str x => PyData.canLay0 (.str x)
  | .tup xs => plainDs xs
  | .lst xs => plainDs xs
  | _ => true
def plainDs : List D → Bool
  | [] => true
  | x :: xs => plainD x && plainDs xs
end
mutual
theorem R_dp {K : PySem.W.Frag} {cl : Nat → Addr} {H0 H : Hp} (l : Lk H0 H) : ∀ {d : D} {v : V}, plainD d = true → R cl H0 d v → Dp K H v (pyD d)
  | .non, v, _, h => by
    obtain rfl : v = .non := h
    exact .non
  | .bl b, v, _, h => by
    obtain rfl : v = .bl b := h
    exact .bl b
  | .int b, v, _, h => by
    obtain rfl : v = .int b := h
    exact .int b
  | .str b, v, _, h => by
    obtain rfl : v = .str b := h
    exact .str b
  | .tup xs, _, p, ⟨a, vs, e, h1, h2⟩ => by
    subst e
    exact .tup (l.st h1) (Rs_dp l p h2)
  | .lst xs, _, p, ⟨a, vs, e, h1, h2⟩ => by
    subst e
    exact .lst (l.sq h1) (Rs_dp l p h2)
  | .dic _ _, _, p, _ => by cases p
  | .obj _ _ _, _, p, _ => by cases p
theorem Rs_dp {K : PySem.W.Frag} {cl : Nat → Addr} {H0 H : Hp} (l : Lk H0 H) : ∀ {ds : List D} {vs : List V}, plainDs ds = true → Rs cl H0 ds vs → DpAll K H vs (pyDs ds)
  | [], vs, _, h => by
    obtain rfl : vs = [] := h
    exact .nil
  | d :: ds, _, p, ⟨v, t, e, h1, h2⟩ => by
    subst e
    have q : (plainD d && plainDs ds) = true := p
    rw [Bool.and_eq_true] at q
    exact .cons (R_dp l q.1 h1) (Rs_dp l q.2 h2)
end
mutual
theorem lay_plain : ∀ {d : D}, plainD d = true → (pyD d).canLay0 = true
  | .non, _ => rfl
  | .bl _, _ => rfl
  | .int _, _ => rfl
  | .str _, h => h
  | .tup xs, h => by
    show PyData.canLayAll0 (pyDs xs) = true
    exact lay_plains h
  | .lst xs, h => by
    show PyData.canLayAll0 (pyDs xs) = true
    exact lay_plains h
  | .dic _ _, h => by cases h
  | .obj _ _ _, h => by cases h
theorem lay_plains : ∀ {ds : List D}, plainDs ds = true → PyData.canLayAll0 (pyDs ds) = true
  | [], _ => rfl
  | d :: ds, p => by
    have q : (plainD d && plainDs ds) = true := p
    rw [Bool.and_eq_true] at q
    show ((pyD d).canLay0 && PyData.canLayAll0 (pyDs ds)) = true
    rw [lay_plain q.1, lay_plains q.2]
    rfl
end
theorem pyDs_map : ∀ ds : List D, pyDs ds = ds.map pyD
  | [] => rfl
  | d :: ds => by
    show pyD d :: pyDs ds = _
    rw [pyDs_map ds]
    rfl
theorem plainDs_all : ∀ ds : List D, plainDs ds = ds.all plainD
  | [] => rfl
  | d :: ds => by
    show (plainD d && plainDs ds) = _
    rw [plainDs_all ds]
    rfl
theorem depthAll_le {n : Nat} : ∀ {ds : List PyData}, (∀ d ∈ ds, d.depth ≤ n) → PyData.depthAll ds ≤ n
  | [], _ => Nat.zero_le _
  | d :: ds, h => by
    show max d.depth (PyData.depthAll ds) ≤ n
    exact Nat.max_le.mpr ⟨h d List.mem_cons_self, depthAll_le fun e he => h e (List.mem_cons_of_mem _ he)⟩
/-- a datum that may be compared: plain, at most n deep -/
structure Sh (n : Nat) (d : D) : Prop where
  p : plainD d = true
  dp : (pyD d).depth ≤ n
theorem Sh.shaped {n : Nat} {d : D} (h : Sh n d) (hn : n ≤ 64) : SeqAt.shaped (pyD d) = true := by
  unfold SeqAt.shaped
  rw [lay_plain h.p, Bool.true_and]
  exact decide_eq_true (Nat.le_trans h.dp hn)
theorem sh_non {n : Nat} : Sh n .non := ⟨rfl, Nat.zero_le _⟩
theorem sh_int {n : Nat} {i : Int} : Sh n (.int i) := ⟨rfl, Nat.zero_le _⟩
theorem sh_tup {n : Nat} {ds : List D} (h : ∀ d ∈ ds, Sh n d) : Sh (n + 1) (.tup ds) := ⟨by
  show plainDs ds = true
  rw [plainDs_all]
  exact List.all_eq_true.mpr fun d hd => (h d hd).p, by
  show PyData.depthAll (pyDs ds) + 1 ≤ n + 1
  refine Nat.succ_le_succ (depthAll_le fun d hd => ?_)
  rw [pyDs_map] at hd
  obtain ⟨x, hx, rfl⟩ := List.mem_map.mp hd
  exact (h x hx).dp⟩
theorem sh_lst {n : Nat} {ds : List D} (h : ∀ d ∈ ds, Sh n d) : Sh (n + 1) (.lst ds) := ⟨by
  show plainDs ds = true
  rw [plainDs_all]
  exact List.all_eq_true.mpr fun d hd => (h d hd).p, by
  show PyData.depthAll (pyDs ds) + 1 ≤ n + 1
  refine Nat.succ_le_succ (depthAll_le fun d hd => ?_)
  rw [pyDs_map] at hd
  obtain ⟨x, hx, rfl⟩ := List.mem_map.mp hd
  exact (h x hx).dp⟩
theorem sh_map {n : Nat} {β : Type} {enc : β → D} (h : ∀ x, Sh n (enc x)) (xs : List β) : ∀ d ∈ xs.map enc, Sh n d := fun d hd => by
  obtain ⟨x, _, rfl⟩ := List.mem_map.mp hd
  exact h x
theorem sh_eNs {n : Nat} (l : List Nat) : Sh (n + 1) (eNs l) := sh_tup (sh_map (fun _ => sh_int) l)
theorem sh_eP {n : Nat} (p : Nat × Nat) : Sh (n + 1) (eP p) := sh_tup (by
  intro d hd
  simp only [List.mem_cons, List.not_mem_nil, or_false] at hd
  rcases hd with rfl | rfl <;> exact sh_int)
theorem sh_eT {n : Nat} (t : Tel) : Sh (n + 3) (eT t) := sh_tup (by
  intro d hd
  simp only [List.mem_cons, List.not_mem_nil, or_false] at hd
  rcases hd with rfl | rfl
  · exact sh_eNs _
  · exact sh_tup (sh_map (fun _ => sh_eP _) _))

section
variable {cl : Nat → Addr} {X : Cx} {r : List Sl} {w : List Ow} {e a b c tg : Expr} {d x y z : D} {pos p p2 : Pos} {n : Str} {es : List Expr} {ds : List D} {k m : Nat}
theorem room64 (hr : Room k X.A) : X.A.units + 64 < cLine := hr.units
theorem wp_eqD {bb : Bool} (hr : Room k X.A) (ha : WP cl X r w a x) (hb : WP cl X r w b y) (hx : Sh 60 x) (hy : Sh 60 y) (e : PyData.eqv (pyD x) (pyD y) = bb) (hm : behindInMarks .Eq b = false := by rfl) : WP cl X r w (.Compare a [.Eq] [b] pos) (.bl bb) := wp_cmp (op_eqD (room64 hr)) ha hb (fun s u v ok r1 r2 Q q => ⟨pyD x, pyD y, R_dp ok.lk hx.p r1, R_dp ok.lk hy.p r2, hx.shaped (by decide), hy.shaped (by decide), q _ s (.refl s) ok (by rw [e]; rfl)⟩) hm
theorem wp_neD {bb : Bool} (hr : Room k X.A) (ha : WP cl X r w a x) (hb : WP cl X r w b y) (hx : Sh 60 x) (hy : Sh 60 y) (e : PyData.eqv (pyD x) (pyD y) = bb) (hm : behindInMarks .NotEq b = false := by rfl) : WP cl X r w (.Compare a [.NotEq] [b] pos) (.bl (!bb)) := wp_cmp (op_neD (room64 hr)) ha hb (fun s u v ok r1 r2 Q q => ⟨pyD x, pyD y, R_dp ok.lk hx.p r1, R_dp ok.lk hy.p r2, hx.shaped (by decide), hy.shaped (by decide), q _ s (.refl s) ok (by rw [e]; rfl)⟩) hm
theorem wt_neD {bb : Bool} (hr : Room k X.A) (ha : WP cl X r w a x) (hb : WP cl X r w b y) (hx : Sh 60 x) (hy : Sh 60 y) (e : PyData.eqv (pyD x) (pyD y) = bb) (hm : behindInMarks .NotEq b = false := by rfl) : WT cl X r w (.Compare a [.NotEq] [b] pos) (!bb) := wt_cmp (op_neD (room64 hr)) ha hb (fun s u v ok r1 r2 Q q => ⟨pyD x, pyD y, R_dp ok.lk hx.p r1, R_dp ok.lk hy.p r2, hx.shaped (by decide), hy.shaped (by decide), q _ s (.refl s) ok (by rw [e]; rfl)⟩) hm
theorem wt_inDL {bb : Bool} (hr : Room (k + 1) X.A) (ha : WP cl X r w a x) (hb : WP cl X r w b (.lst ds)) (hx : Sh 60 x) (hy : Sh 60 (.lst ds)) (e : (ds.any fun z => PyData.eqv (pyD z) (pyD x)) = bb) (hm : behindInMarks .In b = false := by rfl) : WT cl X r w (.Compare a [.In] [b] pos) bb := wt_cmp (op_inD (by have := hr.un; omega)) ha hb (fun s u v ok r1 r2 Q q => ⟨pyD x, pyDs ds, R_dp ok.lk hx.p r1, R_dp ok.lk hy.p r2, hx.shaped (by decide), hy.shaped (by decide), q _ s (.refl s) ok (by
  show V.bl _ = V.bl _
  rw [← e, pyDs_map, List.any_map]
  rfl)⟩) hm
theorem wt_niDL {bb : Bool} (hr : Room (k + 1) X.A) (ha : WP cl X r w a x) (hb : WP cl X r w b (.lst ds)) (hx : Sh 60 x) (hy : Sh 60 (.lst ds)) (e : (ds.any fun z => PyData.eqv (pyD z) (pyD x)) = bb) (hm : behindInMarks .NotIn b = false := by rfl) : WT cl X r w (.Compare a [.NotIn] [b] pos) (!bb) := wt_cmp (op_notInD (by have := hr.un; omega)) ha hb (fun s u v ok r1 r2 Q q => ⟨pyD x, pyDs ds, R_dp ok.lk hx.p r1, R_dp ok.lk hy.p r2, hx.shaped (by decide), hy.shaped (by decide), q _ s (.refl s) ok (by
  show V.bl _ = V.bl _
  rw [← e, pyDs_map, List.any_map]
  rfl)⟩) hm
end

/-! ### equal data of one kind -/
theorem eqvAll_map {β : Type} {enc : β → D} (h : ∀ x y, PyData.eqv (pyD (enc x)) (pyD (enc y)) = true ↔ x = y) : ∀ xs ys : List β, PyData.eqvAll (pyDs (xs.map enc)) (pyDs (ys.map enc)) = true ↔ xs = ys
  | [], [] => ⟨fun _ => rfl, fun _ => rfl⟩
  | [], _ :: _ => ⟨fun z => (by cases z), fun z => (by cases z)⟩
  | _ :: _, [] => ⟨fun z => (by cases z), fun z => (by cases z)⟩
  | x :: xs, y :: ys => by
    show (PyData.eqv (pyD (enc x)) (pyD (enc y)) && PyData.eqvAll (pyDs (xs.map enc)) (pyDs (ys.map enc))) = true ↔ _
    rw [Bool.and_eq_true, h, eqvAll_map h xs ys, List.cons.injEq]
theorem eqv_N (x y : Nat) : PyData.eqv (pyD (eN x)) (pyD (eN y)) = true ↔ x = y := by
  show ((x : Int) == (y : Int)) = true ↔ _
  rw [beq_iff_eq]
  omega
theorem eqv_Ns (x y : List Nat) : PyData.eqv (pyD (eNs x)) (pyD (eNs y)) = true ↔ x = y := eqvAll_map eqv_N x y
theorem eqv_P (x y : Nat × Nat) : PyData.eqv (pyD (eP x)) (pyD (eP y)) = true ↔ x = y := by
  show (PyData.eqv (pyD (eN x.1)) (pyD (eN y.1)) && (PyData.eqv (pyD (eN x.2)) (pyD (eN y.2)) && true)) = true ↔ _
  rw [Bool.and_true, Bool.and_eq_true, eqv_N, eqv_N, Prod.ext_iff]
theorem eqv_T (x y : Tel) : PyData.eqv (pyD (eT x)) (pyD (eT y)) = true ↔ x = y := by
  show (PyData.eqv (pyD (eNs x.1)) (pyD (eNs y.1)) && (PyData.eqv (pyD (.tup (x.2.map eP))) (pyD (.tup (y.2.map eP))) && true)) = true ↔ _
  have h : PyData.eqv (pyD (.tup (x.2.map eP))) (pyD (.tup (y.2.map eP))) = true ↔ x.2 = y.2 := eqvAll_map eqv_P x.2 y.2
  rw [Bool.and_true, Bool.and_eq_true, eqv_Ns, h, Prod.ext_iff]
theorem eqv_iff {p : Prop} [Decidable p] {b : Bool} (h : b = true ↔ p) : b = decide p := by
  cases b with
  | true => exact (decide_eq_true (h.mp rfl)).symm
  | false => exact (decide_eq_false (fun z => by cases h.mpr z)).symm
end FV
set_option Elab.async false
set_option linter.all false
set_option maxRecDepth 100000
set_option maxHeartbeats 2000000
/-! The data layer, part H: sorted, <, dicts made. -/
namespace FV
open PySem PySem.Spec PyProof.Rows L2

/-- sorted(xs), the items read as data, any number of them -/
def rSrt (K : PySem.W.Frag) {β : Type} (enc : β → PyData) : List V → Hp → VK → Prop := fun vs H Q => ∃ (a : Addr) (bs : List (V × β)), vs = [.ref a] ∧ SqL K H a (bs.map (·.1)) ∧ (∀ b ∈ bs, Dp K H b.1 (enc b.2)) ∧ (∀ x y, PySem.W.alike (enc x) (enc y) = true) ∧ ((∀ b ∈ bs, ∃ x r, enc b.2 = .tuple (x :: r)) ∨ ∀ b ∈ bs, enc b.2 ≠ .none ∧ ∀ xs, enc b.2 ≠ .tuple xs) ∧ (∀ x, (enc x).depth ≤ 30) ∧
  ∀ p, H p = none → Q (.ref p) (upd H p (.lst ((bs.mergeSort (PySem.W.dataLe false fun b => enc b.2)).map (·.1))))
theorem each_rel {β : Type} : ∀ {bs : List (V × β)} {us : List Value}, Vals (bs.map (·.1)) us → PySem.W.EachIs (fun u (b : V × β) => RelV b.1 u) us bs
  | [], _, h => by
    cases h
    exact .nil
  | b :: bs, _, h => by
    have h : Paired RelV (b.1 :: bs.map (·.1)) _ := h
    cases h with
    | cons h1 h2 => exact .cons h1 (each_rel h2)
theorem rel_each {β : Type} : ∀ {bs : List (V × β)} {us : List Value}, PySem.W.EachIs (fun u (b : V × β) => RelV b.1 u) us bs → Vals (bs.map (·.1)) us
  | _, _, .nil => .nil
  | _, _, .cons h1 h2 => .cons h1 (rel_each h2)
theorem each_imp {α β : Type} {R S : α → β → Prop} : ∀ {us : List α} {bs : List β}, (∀ b ∈ bs, ∀ u, R u b → S u b) → PySem.W.EachIs R us bs → PySem.W.EachIs S us bs
  | _, _, _, .nil => .nil
  | _, _, h, .cons h1 h2 => .cons (h _ List.mem_cons_self _ h1) (each_imp (fun b hb => h b (List.mem_cons_of_mem _ hb)) h2)
theorem cr_srt {X : Cx} {β : Type} {enc : β → PyData} (hu : X.A.units + 64 < cLine) : CallR X (.builtin "sorted") (rSrt X.K enc) := by
  intro pins s σ H vs us Q I r h
  obtain ⟨a, bs, rfl, hs, hd, hal, hk, hdp, q⟩ := h
  obtain ⟨its, rv, hl, hz⟩ := I.list hs
  rw [Vals.ref1 r]
  have e1 := each_rel rv
  have e2 : PySem.W.EachIs (fun v (b : V × β) => ∃ as, Reads s.heap v (enc b.2) as) its bs := each_imp (fun b hb u hr => Dp.reads I _ _ _ (hd b hb) hr) e1
  have hlen : bs.length ≤ sizeLine := by rw [List.length_map] at hz; exact hz
  refine PySem.W.sorted_data (enc := fun b : V × β => enc b.2) hl.isList e1 e2 (PySem.W.AllAlike.of fun x y => hal _ _) ?_ hlen (fun b hb => by have := hdp b.2; omega) fun out ho he => ?_
  · rcases hk with hk | hk
    · refine .inl fun d hd => ?_
      obtain ⟨b, hb, rfl⟩ := List.mem_map.mp hd
      exact hk b hb
    · refine .inr fun d hd => ?_
      obtain ⟨b, hb, rfl⟩ := List.mem_map.mp hd
      exact hk b hb
  · obtain ⟨ep, he'⟩ := PyProof.Rows.sortedAll_at s.heap its out.toArray
    refine ⟨.ref _, upd H (s.heap.objs.size + 1) (.lst ((bs.mergeSort (PySem.W.dataLe false fun b => enc b.2)).map (·.1))), I.laid (t' := s.toks) (fun _ _ => PyProof.Rows.sortedAll_old) (Nat.le_succ _) ⟨?_, out, ep, rel_each he, he'⟩, rfl, q _ (I.hok.fresh (Nat.le_succ _))⟩
    rw [List.length_map, List.length_mergeSort]
    exact hlen
theorem Rs.zip_map {cl : Nat → Addr} {H : Hp} {β : Type} {enc : β → D} : ∀ {xs : List β} {vs : List V}, Rs cl H (xs.map enc) vs → (vs.zip xs).map (·.1) = vs ∧ (vs.zip xs).map (·.2) = xs ∧ ∀ b ∈ vs.zip xs, R cl H (enc b.2) b.1
  | [], vs, h => by
    obtain rfl : vs = [] := h
    exact ⟨rfl, rfl, fun b hb => by cases hb⟩
  | x :: xs, _, ⟨v, t, e, h1, h2⟩ => by
    subst e
    obtain ⟨g1, g2, g3⟩ := Rs.zip_map h2
    refine ⟨?_, ?_, fun b hb => ?_⟩
    · rw [List.zip_cons_cons, List.map_cons, g1]
    · rw [List.zip_cons_cons, List.map_cons, g2]
    · rw [List.zip_cons_cons] at hb
      rcases List.mem_cons.mp hb with rfl | hb
      · exact h1
      · exact g3 b hb
theorem Rs.of_pairs {cl : Nat → Addr} {H : Hp} {β : Type} {enc : β → D} : ∀ {bs : List (V × β)}, (∀ b ∈ bs, R cl H (enc b.2) b.1) → Rs cl H ((bs.map (·.2)).map enc) (bs.map (·.1))
  | [], _ => .nil
  | b :: bs, h => .cons (h b List.mem_cons_self) (Rs.of_pairs fun c hc => h c (List.mem_cons_of_mem _ hc))
section
variable {cl : Nat → Addr} {X : Cx} {r : List Sl} {w : List Ow} {e a b c tg : Expr} {d x y z : D} {pos p p2 : Pos} {n : Str} {es : List Expr} {ds : List D} {k m : Nat}
theorem wp_sorted {β : Type} {enc : β → D} {xs ys : List β} (le : β → β → Bool) (B : Bl X.mg) (hr : Room k X.A) (ha : WP cl X r w a (.lst (xs.map enc))) (hle : ∀ x y, (!PySem.W.dataLt (pyD (enc y)) (pyD (enc x))) = le x y) (tr : ∀ a b c, le a b = true → le b c = true → le a c = true) (tot : ∀ a b, (le a b || le b a) = true) (anti : ∀ a b, le a b = true → le b a = true → a = b)
    (hal : ∀ x y, PySem.W.alike (pyD (enc x)) (pyD (enc y)) = true) (hsh : ∀ x, Sh 30 (enc x)) (htup : ∀ x ∈ xs, ∃ y r, pyD (enc x) = .tuple (y :: r)) (hp : ys.Perm xs) (hs : ys.Pairwise fun a b => le a b = true) (hg : Gl X "sorted" := by rfl) (he : starEach [a] X.env = (false, eval a X.env) :: starEach [] X.env := by rfl) (hpl : (backTo pos (starEach [] X.env)).any (·.1) = false := by rfl) : WP cl X r w (.Call (.Name "sorted" p) [a] [] pos) (.lst (ys.map enc)) :=
  wp_call (cr_srt (enc := fun x => pyD (enc x)) (room64 hr)) B.sorted (by decide +kernel) (wa_cons ha wa_nil he) (fun s vs ok rs Q q => by
    obtain ⟨v, rfl, rv⟩ := rs1 rs
    obtain ⟨a, us, rfl, g1, g2⟩ := rv
    obtain ⟨z1, z2, z3⟩ := g2.zip_map
    refine ⟨a, us.zip xs, rfl, by rw [z1]; exact ok.lk.sq g1, fun b hb => R_dp ok.lk (hsh _).p (z3 b hb), hal, .inl fun b hb => ?_, fun x => (hsh x).dp, fun p np => ?_⟩
    · refine htup b.2 ?_
      rw [← z2]
      exact List.mem_map.mpr ⟨b, hb, rfl⟩
    · have ecmp : (PySem.W.dataLe false fun b : V × β => pyD (enc b.2)) = fun a b => le a.2 b.2 := by
        rw [PySem.W.dataLe_eq]
        funext a b
        exact hle a.2 b.2
      have hperm := List.mergeSort_perm (us.zip xs) (PySem.W.dataLe false fun b : V × β => pyD (enc b.2))
      have hsort := List.pairwise_mergeSort (le := fun a b : V × β => le a.2 b.2) (fun a b c => tr a.2 b.2 c.2) (fun a b => tot a.2 b.2) (us.zip xs)
      rw [← ecmp] at hsort
      generalize hM : (us.zip xs).mergeSort (PySem.W.dataLe false fun b : V × β => pyD (enc b.2)) = M at hperm hsort ⊢
      have ey : M.map (·.2) = ys := by
        have p1 : (M.map (·.2)).Perm xs := by
          have := hperm.map (·.2)
          rw [z2] at this
          exact this
        refine (p1.trans hp.symm).eq_of_pairwise (fun a b _ _ h1 h2 => anti a b h1 h2) ?_ hs
        rw [List.pairwise_map]
        exact hsort
      subst ey
      exact q _ (s.add p _) (.add ok.lk np) (ok.add np) ⟨p, _, rfl, upd_same, (Rs.of_pairs fun b hb => z3 b (hperm.mem_iff.mp hb)).mono (Ex.new (ok.lk.nil np))⟩) hg (by decide) (by decide) he hpl
end
/-! ### the order of tuples of numbers -/
def lexLtN : List Nat → List Nat → Bool
  | [], [] => false
  | [], _ :: _ => true
  | _ :: _, [] => false
  | x :: r, y :: s => if x = y then lexLtN r s else decide (x < y)
theorem lexNil1 (y : PyData) (ys : List PyData) : PyProof.Rows.lexLt PyProof.Rows.itemOrd (PySem.W.keyToksAll []) (PySem.W.keyToksAll (y :: ys)) = true := by
  unfold PySem.W.keyToksAll
  exact PySem.W.lex_atom (p := .inl 0) (q := .inl 1) (by intro z; cases z) _ _
theorem dl_ns : ∀ xs ys : List Nat, PyProof.Rows.lexLt PyProof.Rows.itemOrd (PySem.W.keyToksAll (pyDs (xs.map eN))) (PySem.W.keyToksAll (pyDs (ys.map eN))) = lexLtN xs ys
  | [], [] => by decide +kernel
  | [], y :: ys => by
    show PyProof.Rows.lexLt PyProof.Rows.itemOrd (PySem.W.keyToksAll []) (PySem.W.keyToksAll (_ :: _)) = true
    exact lexNil1 _ _
  | x :: xs, [] => by
    show PyProof.Rows.lexLt PyProof.Rows.itemOrd (PySem.W.keyToksAll (_ :: _)) (PySem.W.keyToksAll []) = false
    unfold PySem.W.keyToksAll
    exact PySem.W.lex_atom (p := .inl 1) (q := .inl 0) (by intro z; cases z) _ _
  | x :: xs, y :: ys => by
    show PyProof.Rows.lexLt PyProof.Rows.itemOrd (PySem.W.keyToksAll (pyD (eN x) :: pyDs (xs.map eN))) (PySem.W.keyToksAll (pyD (eN y) :: pyDs (ys.map eN))) = _
    rw [PySem.W.dataLt_cons (by simp [pyD, PySem.W.alike])]
    unfold lexLtN
    by_cases h : x = y
    · rw [if_pos ((eqv_N x y).mpr h), if_pos h, dl_ns xs ys]
    · rw [if_neg (fun z => h ((eqv_N x y).mp z)), if_neg h]
      show PySem.W.dataLt (.int (x : Int)) (.int (y : Int)) = _
      rw [PySem.W.dataLt_int]
      simp
theorem dl_eNs (xs ys : List Nat) : PySem.W.dataLt (pyD (eNs xs)) (pyD (eNs ys)) = lexLtN xs ys := by
  show PySem.W.dataLt (.tuple (pyDs (xs.map eN))) (.tuple (pyDs (ys.map eN))) = _
  rw [PySem.W.dataLt_tuple, dl_ns]
theorem lexLe_lt : ∀ xs ys : List Nat, (!lexLtN ys xs) = lexLe xs ys
  | [], [] => rfl
  | [], _ :: _ => rfl
  | _ :: _, [] => rfl
  | x :: xs, y :: ys => by
    unfold lexLtN lexLe
    by_cases h : x = y
    · subst h
      rw [if_pos rfl, lexLe_lt xs ys]
      simp
    · rw [if_neg (fun z => h z.symm)]
      have : (x == y) = false := by simpa using h
      rw [this, Bool.false_and, Bool.or_false]
      rw [Bool.eq_iff_iff]
      simp
      omega
theorem lexLe_trans : ∀ a b c : List Nat, lexLe a b = true → lexLe b c = true → lexLe a c = true
  | [], _, _, _, _ => by unfold lexLe; rfl
  | _ :: _, [], _, h, _ => by cases h
  | _ :: _, _ :: _, [], _, h => by cases h
  | x :: a, y :: b, z :: c, h1, h2 => by
    unfold lexLe at h1 h2 ⊢
    simp only [Bool.or_eq_true, decide_eq_true_eq, Bool.and_eq_true, beq_iff_eq] at h1 h2 ⊢
    rcases h1 with h1 | ⟨h1, h1'⟩ <;> rcases h2 with h2 | ⟨h2, h2'⟩
    · exact .inl (by omega)
    · exact .inl (by omega)
    · exact .inl (by omega)
    · exact .inr ⟨h1.trans h2, lexLe_trans a b c h1' h2'⟩
theorem lexLe_total : ∀ a b : List Nat, (lexLe a b || lexLe b a) = true
  | [], _ => by simp [lexLe]
  | _ :: _, [] => by simp [lexLe]
  | x :: a, y :: b => by
    have h := lexLe_total a b
    unfold lexLe
    simp only [Bool.or_eq_true, decide_eq_true_eq, Bool.and_eq_true, beq_iff_eq] at h ⊢
    by_cases q : x = y
    · rcases h with h | h
      · exact .inl (.inr ⟨q, h⟩)
      · exact .inr (.inr ⟨q.symm, h⟩)
    · by_cases q2 : x < y
      · exact .inl (.inl q2)
      · exact .inr (.inl (by omega))
theorem lexLe_anti : ∀ a b : List Nat, lexLe a b = true → lexLe b a = true → a = b
  | [], [], _, _ => rfl
  | [], _ :: _, _, h => by cases h
  | _ :: _, [], h, _ => by cases h
  | x :: a, y :: b, h1, h2 => by
    unfold lexLe at h1 h2
    simp only [Bool.or_eq_true, decide_eq_true_eq, Bool.and_eq_true, beq_iff_eq] at h1 h2
    rcases h1 with h1 | ⟨h1, h1'⟩ <;> rcases h2 with h2 | ⟨h2, h2'⟩
    · omega
    · omega
    · omega
    · rw [h1, lexLe_anti a b h1' h2']
theorem insL_perm (x : List Nat) : ∀ l, (insL x l).Perm (x :: l)
  | [] => .refl _
  | y :: r => by
    unfold insL
    split
    · exact .refl _
    · exact ((insL_perm x r).cons y).trans (.swap x y r)
theorem sortL_perm : ∀ l, (sortL l).Perm l
  | [] => .refl _
  | x :: r => (insL_perm x _).trans ((sortL_perm r).cons x)
theorem insL_sorted (x : List Nat) : ∀ l, l.Pairwise (fun a b => lexLe a b = true) → (insL x l).Pairwise (fun a b => lexLe a b = true)
  | [], _ => by simp [insL]
  | y :: r, h => by
    unfold insL
    rw [List.pairwise_cons] at h
    split
    · rename_i q
      rw [List.pairwise_cons]
      refine ⟨fun z hz => ?_, List.pairwise_cons.mpr h⟩
      rcases List.mem_cons.mp hz with rfl | hz
      · exact q
      · exact lexLe_trans _ _ _ q (h.1 z hz)
    · rename_i q
      rw [List.pairwise_cons]
      refine ⟨fun z hz => ?_, insL_sorted x r h.2⟩
      rcases List.mem_cons.mp ((insL_perm x r).mem_iff.mp hz) with rfl | hz
      · have := lexLe_total z y
        rw [Bool.or_eq_true] at this
        exact this.resolve_left q
      · exact h.1 z hz
theorem sortL_sorted : ∀ l, (sortL l).Pairwise (fun a b => lexLe a b = true)
  | [] => .nil
  | x :: r => insL_sorted x _ (sortL_sorted r)
theorem pLe_lex (a b : Nat × Nat) : pLe a b = lexLe [a.1, a.2] [b.1, b.2] := by
  unfold pLe
  simp only [lexLe, Bool.and_true]
  rw [Bool.eq_iff_iff]
  simp
  omega
theorem pair_eq {a b : Nat × Nat} (h : [a.1, a.2] = [b.1, b.2]) : a = b := by
  simp only [List.cons.injEq, and_true] at h
  exact Prod.ext h.1 h.2
theorem insP_perm (x : Nat × Nat) : ∀ l, (insP x l).Perm (x :: l)
  | [] => .refl _
  | y :: r => by
    unfold insP
    split
    · exact .refl _
    · exact ((insP_perm x r).cons y).trans (.swap x y r)
theorem sortP_perm : ∀ l, (sortP l).Perm l
  | [] => .refl _
  | x :: r => (insP_perm x _).trans ((sortP_perm r).cons x)
theorem pLe_trans (a b c : Nat × Nat) (h1 : pLe a b = true) (h2 : pLe b c = true) : pLe a c = true := by
  rw [pLe_lex] at *
  exact lexLe_trans _ _ _ h1 h2
theorem pLe_total (a b : Nat × Nat) : (pLe a b || pLe b a) = true := by
  rw [pLe_lex, pLe_lex]
  exact lexLe_total _ _
theorem pLe_anti (a b : Nat × Nat) (h1 : pLe a b = true) (h2 : pLe b a = true) : a = b := by
  rw [pLe_lex] at *
  exact pair_eq (lexLe_anti _ _ h1 h2)
theorem insP_sorted (x : Nat × Nat) : ∀ l, l.Pairwise (fun a b => pLe a b = true) → (insP x l).Pairwise (fun a b => pLe a b = true)
  | [], _ => by simp [insP]
  | y :: r, h => by
    unfold insP
    rw [List.pairwise_cons] at h
    split
    · rename_i q
      rw [List.pairwise_cons]
      refine ⟨fun z hz => ?_, List.pairwise_cons.mpr h⟩
      rcases List.mem_cons.mp hz with rfl | hz
      · exact q
      · exact pLe_trans _ _ _ q (h.1 z hz)
    · rename_i q
      rw [List.pairwise_cons]
      refine ⟨fun z hz => ?_, insP_sorted x r h.2⟩
      rcases List.mem_cons.mp ((insP_perm x r).mem_iff.mp hz) with rfl | hz
      · have := pLe_total z y
        rw [Bool.or_eq_true] at this
        exact this.resolve_left q
      · exact h.1 z hz
theorem sortP_sorted : ∀ l, (sortP l).Pairwise (fun a b => pLe a b = true)
  | [] => .nil
  | x :: r => insP_sorted x _ (sortP_sorted r)
theorem alike_ns : ∀ xs ys : List Nat, PySem.W.alikeAll (pyDs (xs.map eN)) (pyDs (ys.map eN)) = true
  | [], _ => by simp [pyDs, PySem.W.alikeAll]
  | _ :: _, [] => by simp [pyDs, PySem.W.alikeAll]
  | x :: xs, y :: ys => by
    show PySem.W.alikeAll (pyD (eN x) :: pyDs (xs.map eN)) (pyD (eN y) :: pyDs (ys.map eN)) = true
    have := alike_ns xs ys
    simp [PySem.W.alikeAll, PySem.W.alike, pyD, this]
section
variable {cl : Nat → Addr} {X : Cx} {r : List Sl} {w : List Ow} {e a b c tg : Expr} {d x y z : D} {pos p p2 : Pos} {n : Str} {es : List Expr} {ds : List D} {k m : Nat}
theorem wp_sortP {xs : List (Nat × Nat)} (B : Bl X.mg) (hr : Room k X.A) (ha : WP cl X r w a (.lst (xs.map eP))) (hg : Gl X "sorted" := by rfl) (he : starEach [a] X.env = (false, eval a X.env) :: starEach [] X.env := by rfl) (hpl : (backTo pos (starEach [] X.env)).any (·.1) = false := by rfl) : WP cl X r w (.Call (.Name "sorted" p) [a] [] pos) (.lst ((sortP xs).map eP)) :=
  wp_sorted (enc := eP) pLe B hr ha (fun x y => by
    show (!PySem.W.dataLt (pyD (eNs [y.1, y.2])) (pyD (eNs [x.1, x.2]))) = _
    rw [dl_eNs, lexLe_lt, pLe_lex]) pLe_trans pLe_total pLe_anti (fun x y => by
    show PySem.W.alike (pyD (eNs [x.1, x.2])) (pyD (eNs [y.1, y.2])) = true
    exact (by simp only [pyD, PySem.W.alike]; exact alike_ns _ _)) (fun x => sh_eP x) (fun x _ => ⟨_, _, rfl⟩) (sortP_perm xs) (sortP_sorted xs) hg he hpl
theorem wp_sortL {xs : List (List Nat)} (B : Bl X.mg) (hr : Room k X.A) (ha : WP cl X r w a (.lst (xs.map eNs))) (hne : ∀ x ∈ xs, x ≠ []) (hg : Gl X "sorted" := by rfl) (he : starEach [a] X.env = (false, eval a X.env) :: starEach [] X.env := by rfl) (hpl : (backTo pos (starEach [] X.env)).any (·.1) = false := by rfl) : WP cl X r w (.Call (.Name "sorted" p) [a] [] pos) (.lst ((sortL xs).map eNs)) :=
  wp_sorted (enc := eNs) lexLe B hr ha (fun x y => by rw [dl_eNs, lexLe_lt]) lexLe_trans lexLe_total lexLe_anti (fun x y => by simp only [pyD, PySem.W.alike]; exact alike_ns _ _) (fun x => sh_eNs x) (fun x hx => by
    cases x with
    | nil => exact absurd rfl (hne _ hx)
    | cons y r => exact ⟨_, _, rfl⟩) (sortL_perm xs) (sortL_sorted xs) hg he hpl
end
end FV
set_option Elab.async false
set_option linter.all false
set_option maxRecDepth 100000
set_option maxHeartbeats 2000000
/-! The data layer, part I: owned objects read, dicts made, locks. -/
namespace FV
open PySem PySem.Spec PyProof.Rows L2

/-! ### reading an owned object as a datum -/
def hideR (r : List Sl) : List Sl := r.map fun
  | .o _ => .u
  | x => x
theorem Rvs.hide {cl : Nat → Addr} {s : Sta} {H : Hp} {ps : List (Option Addr)} : ∀ {r : List Sl} {v : List (Option V)}, Rvs cl s r v → Rvs cl ⟨s.H0, H, ps⟩ (hideR r) v
  | [], _, h => h
  | .u :: _, _, ⟨v, r, h1, h2, h3⟩ => ⟨v, r, h1, trivial, Rvs.hide h3⟩
  | .d _ :: _, _, ⟨v, r, h1, h2, h3⟩ => ⟨v, r, h1, h2, Rvs.hide h3⟩
  | .o _ :: _, _, ⟨v, r, h1, h2, h3⟩ => ⟨v, r, h1, trivial, Rvs.hide h3⟩
theorem Rvs.h0 {cl : Nat → Addr} {s : Sta} {H0 H : Hp} {ps : List (Option Addr)} (e : Ex s.H0 H0) : ∀ {r : List Sl} {v : List (Option V)}, Rvs cl s (hideR r) v → Rvs cl ⟨H0, H, ps⟩ (hideR r) v
  | [], _, h => h
  | .u :: _, _, ⟨v, r, h1, h2, h3⟩ => ⟨v, r, h1, trivial, Rvs.h0 e h3⟩
  | .d _ :: _, _, ⟨v, r, h1, ⟨u, g1, g2⟩, h3⟩ => ⟨v, r, h1, ⟨u, g1, g2.mono e⟩, Rvs.h0 e h3⟩
  | .o _ :: _, _, ⟨v, r, h1, h2, h3⟩ => ⟨v, r, h1, trivial, Rvs.h0 e h3⟩
def kindW : Ow → Nat
  | .lst _ => 1
  | .dic _ _ => 2
  | .ins _ _ _ => 3
  | _ => 0
def kindH : HO → Nat
  | .lst _ => 1
  | .dK _ => 2
  | .ins _ _ _ => 3
  | .tup _ => 4
  | _ => 0
mutual
def free (k : Nat) : D → Bool
  | .tup xs => !(k == 4) && frees k xs
  | .lst xs => !(k == 1) && frees k xs
  | .dic _ xs => !(k == 2) && frees k xs
  | .obj _ _ xs => !(k == 3) && frees k xs
  | _ => true
def frees (k : Nat) : List D → Bool
  | [] => true
  | x :: xs => free k x && frees k xs
end
theorem frees_map {k : Nat} {β : Type} {enc : β → D} (h : ∀ x, free k (enc x) = true) : ∀ l : List β, frees k (l.map enc) = true
  | [] => rfl
  | x :: l => by
    show (free k (enc x) && frees k (l.map enc)) = true
    rw [h, frees_map h l]
    rfl
def minus (H : Hp) (p : Addr) : Hp := fun a => if a = p then none else H a
theorem minus_ne {H : Hp} {p a : Addr} (h : a ≠ p) : minus H p a = H a := if_neg h
mutual
theorem R.minus {cl : Nat → Addr} {H : Hp} {p : Addr} {o : HO} {k : Nat} (hp : H p = some o) (hk : kindH o = k) : ∀ {d : D} {v : V}, free k d = true → R cl H d v → R cl (minus H p) d v
  | .non, _, _, h => h
  | .bl _, _, _, h => h
  | .int _, _, _, h => h
  | .str _, _, _, h => h
  | .tup _, _, f, ⟨a, vs, h1, h2, h3⟩ => by
    unfold free at f
    rw [Bool.and_eq_true] at f
    refine ⟨a, vs, h1, ?_, Rs.minus hp hk f.2 h3⟩
    rw [minus_ne]
    · exact h2
    · intro z
      rw [z, hp] at h2
      cases h2
      have : k = 4 := hk.symm
      rw [this] at f
      simp at f
  | .lst _, _, f, ⟨a, vs, h1, h2, h3⟩ => by
    unfold free at f
    rw [Bool.and_eq_true] at f
    refine ⟨a, vs, h1, ?_, Rs.minus hp hk f.2 h3⟩
    rw [minus_ne]
    · exact h2
    · intro z
      rw [z, hp] at h2
      cases h2
      have : k = 1 := hk.symm
      rw [this] at f
      simp at f
  | .dic _ _, _, f, ⟨a, vs, h1, h2, h4, h5, h3⟩ => by
    unfold free at f
    rw [Bool.and_eq_true] at f
    refine ⟨a, vs, h1, ?_, h4, h5, Rs.minus hp hk f.2 h3⟩
    rw [minus_ne]
    · exact h2
    · intro z
      rw [z, hp] at h2
      cases h2
      have : k = 2 := hk.symm
      rw [this] at f
      simp at f
  | .obj _ _ _, _, f, ⟨a, dx, vs, h1, h2, h4, h3⟩ => by
    unfold free at f
    rw [Bool.and_eq_true] at f
    refine ⟨a, dx, vs, h1, ?_, h4, Rs.minus hp hk f.2 h3⟩
    rw [minus_ne]
    · exact h2
    · intro z
      rw [z, hp] at h2
      cases h2
      have : k = 3 := hk.symm
      rw [this] at f
      simp at f
theorem Rs.minus {cl : Nat → Addr} {H : Hp} {p : Addr} {o : HO} {k : Nat} (hp : H p = some o) (hk : kindH o = k) : ∀ {ds : List D} {vs : List V}, frees k ds = true → Rs cl H ds vs → Rs cl (minus H p) ds vs
  | [], _, _, h => h
  | _ :: _, _, f, ⟨v, r, h1, h2, h3⟩ => by
    unfold frees at f
    rw [Bool.and_eq_true] at f
    exact ⟨v, r, h1, R.minus hp hk f.1 h2, Rs.minus hp hk f.2 h3⟩
end
section
variable {cl : Nat → Addr} {X : Cx} {r : List Sl} {w : List Ow} {e a b c tg : Expr} {d x y z : D} {pos p p2 : Pos} {n : Str} {es : List Expr} {ds : List D} {k m : Nat}
/-- the start of a reading: nobody owns anything -/
theorem peek_start {s : Sta} {σ : L2.St} (I : Env X.K cl s σ r w) {i nn : Nat} {u : Ow} (hr : r[i]? = some (.o nn)) (hw : w[nn]? = some u) (hu : plO u = true) : ∃ p o, s.ps[nn]? = some (some p) ∧ s.H p = some o ∧ kindH o = kindW u ∧ s.H0 p = none ∧ Env X.K cl ⟨upd s.H0 p o, s.H, []⟩ σ ((hideR r).set i (.d (owD u))) [] := by
  obtain ⟨v, e1, p0, e2, e3⟩ := I.sl.get hr
  subst e3
  have how := I.ok.own_at e2 hw
  obtain ⟨o, h1, h2⟩ := own_R how hu
  have hq := (I.ok.own (mem_ps e2)).1
  refine ⟨p0, o, e2, h1, ?_, hq, ?_, ?_⟩
  · cases u with
    | gone => exact how.elim
    | tape => cases hu
    | tb P q => cases hu
    | lst xs =>
      obtain ⟨_, vs, g, _⟩ := how
      rw [h1] at g
      cases g
      rfl
    | dic ks ds =>
      obtain ⟨_, vs, g, _⟩ := how
      rw [h1] at g
      cases g
      rfl
    | ins c fs ds =>
      obtain ⟨_, dx, vs, g, _⟩ := how
      rw [h1] at g
      cases g
      rfl
  · refine Ok.none rfl fun a v e => ?_
    have e : upd s.H0 p0 o a = some v := e
    by_cases z : a = p0
    · rw [z, upd_same] at e
      rw [z]
      exact .inl (h1.trans e)
    · rw [upd_ne z] at e
      exact I.ok.lk a v e
  · have g1 : Rvs cl ⟨upd s.H0 p0 o, s.H, []⟩ (hideR r) σ := (Rvs.hide (H := s.H) (ps := s.ps) I.sl).h0 (Ex.new hq)
    have g2 := g1.set i (x := .d (owD u)) (u := some (.ref p0)) ⟨_, rfl, h2⟩
    have g3 : σ.set i (some (.ref p0)) = σ := by
      apply List.ext_getElem?
      intro j
      by_cases z : i = j
      · subst z
        rw [e1, List.getElem?_set_self (List.getElem?_eq_some_iff.mp e1).1]
      · rw [List.getElem?_set_ne z]
    rw [g3] at g2
    exact g2
/-- .. and its end -/
theorem peek_end {s s' : Sta} {p : Addr} {o : HO} (ok : Ok X.K cl s w) (hp : some p ∈ s.ps) (ho : s.H p = some o) (st : Step ⟨upd s.H0 p o, s.H, []⟩ s') (l : Lk s'.H0 s'.H) : Step s ⟨minus s'.H0 p, s'.H, s.ps⟩ ∧ Ok X.K cl ⟨minus s'.H0 p, s'.H, s.ps⟩ w := by
  have hq := (ok.own hp).1
  have e0 : Ex s.H0 (minus s'.H0 p) := fun a u e => by
    have ne : a ≠ p := ne_of_none e hq
    rw [minus_ne ne]
    refine st.e0 a u ?_
    show upd s.H0 p o a = _
    rw [upd_ne ne]
    exact e
  have e1 : ∀ x u, s.H x = some u → s'.H x = some u := fun x u e => st.e1 x u e (by simp)
  have e2 : ∀ x u, minus s'.H0 p x = some u → s.H0 x = some u ∨ s.H x = none := fun x u e => by
    by_cases z : x = p
    · rw [z] at e
      unfold minus at e
      rw [if_pos rfl] at e
      cases e
    · rw [minus_ne z] at e
      rcases st.e2 x u e with g | g
      · have g : upd s.H0 p o x = some u := g
        rw [upd_ne z] at g
        exact .inl g
      · exact .inr g
  refine ⟨⟨e0, fun x u e _ => e1 x u e, e2, List.prefix_refl _, fun _ h => .inl h, fun x _ e => ?_⟩, fun a u e => ?_, ok.nd, ok.len, fun n q u f1 f2 => ?_, ok.tb⟩
  · obtain ⟨u, hu⟩ := Option.isSome_iff_exists.mp e
    show (s'.H x).isSome = true
    rw [e1 x u hu]
    rfl
  · have e : FV.minus s'.H0 p a = some u := e
    by_cases z : a = p
    · rw [z] at e
      unfold FV.minus at e
      rw [if_pos rfl] at e
      cases e
    · rw [minus_ne z] at e
      exact l a u e
  · have how := ok.ow n q u f1 f2
    have live := ok.own (mem_ps f1)
    obtain ⟨ob, hob⟩ := Option.isSome_iff_exists.mp live.2
    refine how.ext e0 (fun g => ?_) ((e1 q ob hob).trans hob.symm)
    cases hh : FV.minus s'.H0 p q with
    | none => exact hh
    | some u2 =>
      rcases e2 q u2 hh with g2 | g2
      · rw [g] at g2
        cases g2
      · rw [hob] at g2
        cases g2
/-- a value that holds nothing of its kind, read off an owned object -/
theorem wp_peek (i : Nat) {nn : Nat} {u : Ow} (hr : r[i]? = some (.o nn)) (hw : w[nn]? = some u) (h : WP cl X ((hideR r).set i (.d (owD u))) [] e z) (hf : free (kindW u) z = true) (hu : plO u = true := by rfl) : WP cl X r w e z := fun s σ I Q k => by
  obtain ⟨p, o, h1, h2, h3, h4, I1⟩ := peek_start I hr hw hu
  refine h _ σ I1 Q fun v s' st ok rv => ?_
  obtain ⟨g1, g2⟩ := peek_end I.ok (mem_ps h1) h2 st ok.lk
  exact k v ⟨FV.minus s'.H0 p, s'.H, s.ps⟩ g1 g2 (rv.minus (st.e0 p o upd_same) h3 hf)
theorem wt_peek (i : Nat) {nn : Nat} {u : Ow} {t : Bool} (hr : r[i]? = some (.o nn)) (hw : w[nn]? = some u) (h : WT cl X ((hideR r).set i (.d (owD u))) [] e t) (hu : plO u = true := by rfl) : WT cl X r w e t := fun s σ I Q k => by
  obtain ⟨p, o, h1, h2, h3, h4, I1⟩ := peek_start I hr hw hu
  refine h _ σ I1 Q fun s' st ok => ?_
  obtain ⟨g1, g2⟩ := peek_end I.ok (mem_ps h1) h2 st ok.lk
  exact k ⟨FV.minus s'.H0 p, s'.H, s.ps⟩ g1 g2

/-! ### < on pairs, extend by a tuple -/
def pLt (a b : Nat × Nat) : Bool := pLe a b && !(a == b)
theorem lexLt_P (a b : Nat × Nat) : HT.lexLt [(a.1 : Int), (a.2 : Int)] [(b.1 : Int), (b.2 : Int)] = pLt a b := by
  unfold pLt pLe
  simp only [HT.lexLt]
  rw [Bool.eq_iff_iff]
  by_cases h1 : a.1 = b.1 <;> by_cases h2 : a.2 = b.2 <;> simp [h1, h2, Prod.ext_iff] <;> omega
theorem wp_ltP {q1 q2 : Nat × Nat} (hr : Room k X.A) (ha : WP cl X r w a (eP q1)) (hb : WP cl X r w b (eP q2)) : WP cl X r w (.Compare a [.Lt] [b] pos) (.bl (pLt q1 q2)) := wp_cmp (op_ltT hr.units0) ha hb (fun s u v ok r1 r2 Q k => by
  obtain ⟨a1, us, rfl, h1, h2⟩ := r1
  obtain ⟨a2, vs, rfl, h3, h4⟩ := r2
  have e1 : us = [(q1.1 : Int), (q1.2 : Int)].map V.int := Rs.ints_of (ns := [(q1.1 : Int), (q1.2 : Int)]) h2
  have e2 : vs = [(q2.1 : Int), (q2.2 : Int)].map V.int := Rs.ints_of (ns := [(q2.1 : Int), (q2.2 : Int)]) h4
  subst e1 e2
  refine ⟨a1, a2, _, _, rfl, rfl, ok.lk.st h1, ok.lk.st h3, k _ s (.refl s) ok ?_⟩
  show V.bl _ = V.bl _
  rw [lexLt_P]) (nomark _)
def rExtT (K : PySem.W.Frag) : V → List V → Hp → VK → Prop := fun x vs H Q => ∃ l b xs zs, x = .ref l ∧ vs = [.ref b] ∧ H l = some (.lst xs) ∧ SqT K H b zs ∧ xs.length + zs.length ≤ 1000000 ∧ Q .non (upd H l (.lst (xs ++ zs)))
theorem meets_extT (l b : Addr) (xs ys : Array Value) (n : Nat) (h1 : xs.size + ys.size ≤ 1000000) : Meets (Builtin.«list.extend» ⟨[.ref l, .ref b], []⟩) (fun _ R s => s.heap.get? l = some { cls := .type "list", data := .seq xs n } ∧ IsTup s.heap b ys ∧ R (.ok (.ret Value.none)) { s with heap := s.heap.update l (Obj.mapSeq fun x => x ++ ys) }) :=
  .of_wp fun prog w A R s h => by
    obtain ⟨hl, ⟨o, ho, hc, m, hd⟩, hR⟩ := h
    have big : (1000000 : Nat) ≤ sizeLine := by decide
    have hno : ¬ (!xs.isEmpty && Builtin.List.listTooLong (xs.size + ys.size)) = true := by
      rw [notLongL (by omega), Bool.and_false]
      exact Bool.false_ne_true
    show wpAny _ _ (Builtin.List.listExtendWith (.ref l) (.ref b) .none) _ _ s
    unfold Builtin.List.listExtendWith
    refine wpAny_bind (wpAny_typeOf ⟨o, ho, hc⟩ ?_)
    have hty : (Builtin.List.listSameRef (.ref l) (.ref b) || Value.type "tuple" == Value.type "list" || Value.type "tuple" == Value.type "tuple") = true := by simp
    simp only [hty, if_true]
    refine wpAny_bind ?_
    unfold Builtin.List.listItems
    refine wpAny_bind (wpAny_seqItems ho hd (wpAny_pure ?_))
    refine wpAny_bind ?_
    refine wpAny_bind (wpAny_seqItems hl rfl (wpAny_pure ?_))
    rw [if_neg hno]
    show wpAny _ A.in1 (updateSeq l (· ++ ys) >>= fun _ => ret .none) _ _ s
    refine wpAny_bind (wpAny_updateSeq hl rfl ?_ (by omega) (by show (xs ++ ys).size ≤ _; rw [Array.size_append]; omega))
    exact wpAny_pure ⟨_, rfl, hR⟩
theorem mt_extT : MtM X "list.extend" (rExtT X.K) := by
  intro pins s σ H x vs v us Q I rx rv h
  obtain ⟨l, b, xs, zs, rfl, rfl, hl0, hb0, hsz, q⟩ := h
  cases rx
  obtain ⟨u, rfl, ru⟩ := rv.one
  cases ru
  obtain ⟨z1, its, n, q1, hlen, ho⟩ := I.lstM hl0
  obtain ⟨jts, q2, ht2, z3⟩ := I.tuple hb0
  have l2 := q2.length
  have big : (1000000 : Nat) ≤ sizeLine := by decide
  refine call_meets F.slot_list_extend ⟨_, ho, rfl⟩ F.entry_list_extend (F.args_list_extend_2 _ _) (meets_extT l b its.toArray jts.toArray n (by rw [List.size_toArray, List.size_toArray]; omega)) ⟨ho, ht2, ?_⟩
  refine ⟨.non, _, I.lset (its' := its ++ jts) hl0 ho (by simp) (q1.append q2) ?_, rfl, q⟩
  rw [List.length_append]
  omega
/-- x.extend(e), e a tuple -/
theorem ws_extendT {m : Nat} {F : Ph} (i : Nat) {nn : Nat} {es : List D} {apos cpos : Pos} (hr : r[i]? = some (.o nn)) (hw : w[nn]? = some (.lst ds)) (h : WP cl X r w e (.tup es)) (hl : ds.length + es.length < 100000) (k : F.nx r (w.set nn (.lst (ds ++ es)))) (hN : X.N[i]? = some n := by rfl) (hv : Vis X.env.scope n := by first | exact Or.inl rfl | exact Or.inr (Or.inl rfl))
    (hd : (n == ("__debug__" : Str)) = false := by decide) (hcd : (n == ("__classdict__" : Str)) = false := by decide)
    (hbase : attributeBase (.Name n p) "extend" X.env (eval (.Name n p) X.env) = eval (.Name n p) X.env := by rfl)
    (hfew : ((backTo cpos (starEach [e] X.env)).all (fun x => !x.1) && (backToKw cpos (keywordEach [] X.env)).all (fun x => x.1.isSome) && decide ([e].length + ([] : List Keyword).length + (if ([] : List Keyword).isEmpty then 0 else 1) < 30)) = true := by rfl)
    (hline : (apos.endLine == cpos.line) = true := by rfl) (hs : starEach [e] X.env = (false, eval e X.env) :: starEach [] X.env := by rfl) (hplain : (backTo cpos (starEach [] X.env)).any (·.1) = false := by rfl)
    (hsw : swapsWith (.Call (.Attribute (.Name n p) "extend" apos) [e] [] cpos) none pos.line X.env = pure false := by rfl) :
    WS cl X m r w (.Expr (.Call (.Attribute (.Name n p) "extend" apos) [e] [] cpos) pos) F := fun B s σ D hm st I C => by
  obtain ⟨v, e1, p0, e2, e3⟩ := I.sl.get hr
  subst e3
  obtain ⟨h0, vs, hv', hrs⟩ := I.ok.own_at e2 hw
  refine ⟨_, ps_expr (pe_bm PySem.F.plainAttrs_list PySem.F.slot_list_extend PySem.F.type_list_extend mt_extT (pe_var hN hv hd hcd) (pa_cons sE pa_nil hs) hbase hfew hline hs hplain) hsw, .ref p0, e1, .inl ⟨rfl, vs, .inl (.inl hv')⟩, h s σ I _ fun v s1 st1 ok1 rv => ?_⟩
  have hps : s1.ps = s.ps := ps_same st1 I.ok ok1 rfl
  have e4 : s1.ps[nn]? = some (some p0) := by rw [hps]; exact e2
  obtain ⟨h0', vs', hv2, hrs2⟩ := ok1.own_at e4 hw
  obtain ⟨q, us, rfl, g1, g2⟩ := rv
  refine ⟨p0, q, vs', us, rfl, rfl, hv2, ok1.lk.st g1, by rw [hrs2.length, g2.length]; omega, ?_⟩
  exact C.nx ⟨s1.H0, upd s1.H p0 (.lst (vs' ++ us)), s1.ps⟩ σ r _ ((st.trans st1).own_set (st.e4 p0 (mem_ps e2))) ⟨ok1.own_set (u := .lst (ds ++ es)) e4 ⟨h0', _, upd_same, hrs2.append g2⟩, (I.sl.step st1).heap⟩ k
end
end FV
set_option Elab.async false
set_option linter.all false
set_option maxRecDepth 100000
set_option maxHeartbeats 2000000
/-! The data layer, part J: dicts walked under a lock, dict comprehensions, dicts changed. -/
namespace FV
open PySem PySem.Spec PyProof.Rows L2

/-! ### a dict is locked, walked, let go -/
theorem ok_lock {K : PySem.W.Frag} {cl : Nat → Addr} {s : Sta} {w : List Ow} {d : Addr} {q : List (Key × V)} {od : Obj} (ok : Ok K cl s w) (h0 : s.H0 d = some (.dK q)) : Ok K cl ⟨s.H0, upd s.H d (.frz od (.dK q)), s.ps⟩ w := by
  refine ⟨fun a u e => ?_, ok.nd, ok.len, fun n p u e1 e2 => ?_, ok.tb⟩
  · have e : s.H0 a = some u := e
    show upd s.H d (.frz od (.dK q)) a = some u ∨ _ ∧ ∃ ob, upd s.H d (.frz od (.dK q)) a = _
    by_cases z : a = d
    · rw [z, upd_same]
      rw [z, h0] at e
      cases e
      exact .inr ⟨⟨q, rfl⟩, od, rfl⟩
    · rw [upd_ne z]
      exact ok.lk a u e
  · have hne : p ≠ d := fun z => ok.notow h0 (by rw [← z]; exact mem_ps e1)
    refine (ok.ow n p u e1 e2).ext (Ex.refl _) (fun g => g) ?_
    show upd s.H d _ p = s.H p
    rw [upd_ne hne]
theorem ok_unlock {K : PySem.W.Frag} {cl : Nat → Addr} {s s' : Sta} {w w' : List Ow} {d : Addr} {q : List (Key × V)} {od : Obj} (ok : Ok K cl s w) (h0 : s.H0 d = some (.dK q)) (hH : s.H d = some (.dK q)) (st : Step ⟨s.H0, upd s.H d (.frz od (.dK q)), s.ps⟩ s') (ok' : Ok K cl s' w') :
    s'.H d = some (.frz od (.dK q)) ∧ Step s ⟨s'.H0, upd s'.H d (.dK q), s'.ps⟩ ∧ Ok K cl ⟨s'.H0, upd s'.H d (.dK q), s'.ps⟩ w' := by
  have nd : some d ∉ s.ps := ok.notow h0
  have g := st.e1 d _ (upd_same (H := s.H)) nd
  have h0' : s'.H0 d = some (.dK q) := st.e0 d _ h0
  have back : ∀ x, upd s.H d (.frz od (.dK q)) x = none → s.H x = none := fun x e => by
    by_cases z : x = d
    · rw [z, upd_same] at e
      cases e
    · rw [upd_ne z] at e
      exact e
  refine ⟨g, ⟨st.e0, fun x u e n => ?_, fun x u e => ?_, st.e3, fun p hp => ?_, fun p hp e => ?_⟩, fun a u e => ?_, ok'.nd, ok'.len, fun n p u e1 e2 => ?_, ok'.tb⟩
  · show upd s'.H d (.dK q) x = some u
    by_cases z : x = d
    · rw [z] at e ⊢
      rw [upd_same, ← hH, e]
    · rw [upd_ne z]
      refine st.e1 x u ?_ n
      show upd s.H d _ x = some u
      rw [upd_ne z]
      exact e
  · rcases st.e2 x u e with z | z
    · exact .inl z
    · exact .inr (back x z)
  · rcases st.e4 p hp with z | z
    · exact .inl z
    · exact .inr (back p z)
  · show (upd s'.H d (.dK q) p).isSome = true
    by_cases z : p = d
    · rw [z, upd_same]
      rfl
    · rw [upd_ne z]
      refine st.e5 p hp ?_
      show (upd s.H d _ p).isSome = true
      rw [upd_ne z]
      exact e
  · have e : s'.H0 a = some u := e
    show upd s'.H d (.dK q) a = some u ∨ _ ∧ ∃ ob, upd s'.H d (.dK q) a = _
    by_cases z : a = d
    · rw [z] at e ⊢
      rw [h0'] at e
      cases e
      rw [upd_same]
      exact .inl rfl
    · rw [upd_ne z]
      exact ok'.lk a u e
  · have hne : p ≠ d := fun z => ok'.notow h0' (by rw [← z]; exact mem_ps e1)
    refine (ok'.ow n p u e1 e2).ext (Ex.refl _) (fun g => g) ?_
    show upd s'.H d _ p = s'.H p
    rw [upd_ne hne]
section
variable {cl : Nat → Addr} {X : Cx} {r : List Sl} {w : List Ow} {e a b c tg : Expr} {d x y z : D} {pos p p2 : Pos} {n : Str} {es : List Expr} {ds : List D} {k m : Nat}
theorem te_lock {s : Sta} {σ : L2.St} {dd : Addr} {q : List (Key × V)} (I : Env X.K cl s σ r w) (h0 : s.H0 dd = some (.dK q))
    (h : ∀ H1 od, H1 dd = some (.frz od (.dK q)) → Env X.K cl ⟨s.H0, H1, s.ps⟩ σ r w → ∀ Q : VK, (∀ v s', Step ⟨s.H0, H1, s.ps⟩ s' → Ok X.K cl s' w → R cl s'.H0 z v → Q v s'.H) → tE X e σ H1 Q)
    (Q : VK) (k : ∀ v s', Step s s' → Ok X.K cl s' w → R cl s'.H0 z v → Q v s'.H) : tE X e σ s.H Q := by
  rcases I.ok.lk dd _ h0 with hH | ⟨_, ob, hH⟩
  · refine ⟨_, pe_lock sE, dd, .dK q, hH, ?_, fun od => ?_⟩
    · exact trivial
    · refine h _ od upd_same ⟨ok_lock I.ok h0, I.sl.heap⟩ _ fun v s' st ok' rv => ?_
      obtain ⟨g1, g2, g3⟩ := ok_unlock I.ok h0 hH st ok'
      exact ⟨g1, k v ⟨s'.H0, upd s'.H dd (.dK q), s'.ps⟩ g2 g3 rv⟩
  · exact h s.H ob hH I Q k
theorem itd_keys {K : PySem.W.Frag} {s0 : Sta} {dd : Addr} {o : Obj} {ks : List Int} {vs : List V} (h : s0.H dd = some (.frz o (.dK (kvs ks vs)))) (hn : some dd ∉ s0.ps) (hl : ks.length = vs.length) : ItD K cl (Itk dd o (kvs ks vs)) s0 (ks.map .int) where
  item i x s st l e := by
    have hz : (kvs ks vs).length = ks.length := by simp [kvs, hl]
    have hi : i < ks.length := by
      have := (List.getElem?_eq_some_iff.mp e).1
      simpa using this
    refine ⟨⟨st.e1 dd _ h hn, by rw [hz]; exact hi⟩, fun v H' y => ?_⟩
    obtain ⟨rfl, k, u, g1, rfl⟩ := y
    refine ⟨s, rfl, .refl s, fun w k => k, ?_⟩
    have g2 : ((kvs ks vs).map (·.1))[i]? = some k := by rw [List.getElem?_map, g1]; rfl
    rw [kvs_keys hl, List.getElem?_map] at g2
    rw [List.getElem?_map] at e
    obtain ⟨j, g3, g4⟩ := Option.map_eq_some_iff.mp e
    rw [g3] at g2
    cases g2
    subst g4
    rfl
  stop s st l := by
    have hz : (kvs ks vs).length = ks.length := by simp [kvs, hl]
    exact ⟨st.e1 dd _ h hn, by rw [hz, List.length_map]; exact Nat.le_refl _⟩
theorem itd_vals {K : PySem.W.Frag} {s0 : Sta} {dd : Addr} {o : Obj} {ks : List Int} {vs : List V} (h : s0.H dd = some (.frz o (.dK (kvs ks vs)))) (hn : some dd ∉ s0.ps) (hl : ks.length = ds.length) (hr : Rs cl s0.H0 ds vs) : ItD K cl (Itd dd o (kvs ks vs)) s0 ds where
  item i x s st l e := by
    have hz : (kvs ks vs).length = ks.length := by simp [kvs, hl, hr.length]
    have hi : i < ds.length := (List.getElem?_eq_some_iff.mp e).1
    refine ⟨⟨st.e1 dd _ h hn, by rw [hz]; omega⟩, fun v H' y => ?_⟩
    obtain ⟨rfl, k, g1⟩ := y
    refine ⟨s, rfl, .refl s, fun w k => k, ?_⟩
    have g2 : ((kvs ks vs).map (·.2))[i]? = some v := by rw [List.getElem?_map, g1]; rfl
    have g3 : (kvs ks vs).map (·.2) = vs := by
      unfold kvs
      rw [List.map_snd_zip]
      rw [List.length_map, hl, hr.length]
      exact Nat.le_refl _
    rw [g3] at g2
    obtain ⟨u, g4, g5⟩ := hr.get e
    rw [g2] at g4
    cases g4
    exact g5.mono st.e0
  stop s st l := by
    have hz : (kvs ks vs).length = ks.length := by simp [kvs, hl, hr.length]
    exact ⟨st.e1 dd _ h hn, by rw [hz, hl]; exact Nat.le_refl _⟩
/-- a place where a dict stands: a name, or a name's field -/
def DAt (cl : Nat → Addr) (X : Cx) (r : List Sl) (w : List Ow) (e : Expr) (ks : List Int) (ds : List D) : Prop := ∀ (s : Sta) (σ : L2.St), Env X.K cl s σ r w → ∃ (dd : Addr) (vs : List V), s.H0 dd = some (.dK (kvs ks vs)) ∧ ks.length = ds.length ∧ Rs cl s.H0 ds vs ∧ ∀ H1, Env X.K cl ⟨s.H0, H1, s.ps⟩ σ r w → ∀ Q : VK, Q (.ref dd) H1 → tE X e σ H1 Q
theorem dat_v (i : Nat) {ks : List Int} (hr : r[i]? = some (.d (.dic ks ds)) := by rfl) (hN : X.N[i]? = some n := by rfl) (hv : Vis X.env.scope n := by first | exact Or.inl rfl | exact Or.inr (Or.inl rfl) | exact Or.inr (Or.inr rfl)) (hd : (n == ("__debug__" : Str)) = false := by decide)
    (hcd : (n == ("__classdict__" : Str)) = false := by decide) : DAt cl X r w (.Name n pos) ks ds := fun s σ I => by
  obtain ⟨u, e1, v, e2, dd, vs, e3, h1, h2, h3, h4⟩ := I.sl.get hr
  subst e2 e3
  exact ⟨dd, vs, h1, h2, h4, fun H1 I1 Q q => ⟨_, pe_var hN hv hd hcd, .ref dd, e1, q⟩⟩
theorem dat_f (i : Nat) {ks : List Int} {cn : Nat} {fs : List Str} {ys : List D} {f : Str} (C : Cls X.K (cl cn)) (na : NoAttr X.K (cl cn) f) (e : (fs.zip ys).lookup f = some (.dic ks ds)) (hr : r[i]? = some (.d (.obj cn fs ys)) := by rfl) (hN : X.N[i]? = some n := by rfl) (hv : Vis X.env.scope n := by first | exact Or.inl rfl | exact Or.inr (Or.inl rfl) | exact Or.inr (Or.inr rfl)) (hd : (n == ("__debug__" : Str)) = false := by decide)
    (hcd : (n == ("__classdict__" : Str)) = false := by decide) (hb : attributeBase (.Name n p) f X.env (eval (.Name n p) X.env) = eval (.Name n p) X.env := by rfl) : DAt cl X r w (.Attribute (.Name n p) f pos) ks ds := fun s σ I => by
  obtain ⟨u, e1, v, e2, o, dx, us, e3, h1, h2, h4⟩ := I.sl.get hr
  subst e2 e3
  obtain ⟨t, g1, g2⟩ := zip_look h4 e
  obtain ⟨dd, vs, rfl, g3, g4, g5, g6⟩ := g2
  exact ⟨dd, vs, g3, g4, g6, fun H1 I1 Q q => ⟨_, pe_fld (pe_var hN hv hd hcd) hb, .ref o, e1, o, cl cn, dx, _, .ref dd, rfl, I1.ok.lk.pl h1 (fun q z => by cases z), C, na, g1, q⟩⟩
section
variable {elt it : Expr} {ifs : List Expr} {scope : Scope} {α : Type}
/-- [.. for x in d ..] -/
theorem wp_lcK {xs : List α} {enc : α → D} {ra : α → List Sl} {f : α → Bool} {g : α → D} {is : List Nat} {ks : List Int} (own : List (Str × Nat)) (hc : X.calm = true) (hN : X.N.Nodup) (ok : BlkOk X.N X.env.scope scope own) (hz : xs.length ≤ 100000) (hi : DAt cl X r w it ks ds) (hk : ks.map D.int = xs.map enc) (his : ∀ i ∈ is, i ∈ own.map (·.2))
    (hg : ∀ x ∈ xs, InBlk X scope fun Y => WG cl Y (wipeR r (own.map (·.2))) w tg (enc x) is (ra x))
    (ht : ∀ x ∈ xs, InBlk X scope fun Y => WTs cl Y (ra x) w ifs (f x))
    (he : ∀ x ∈ xs, f x = true → InBlk X scope fun Y => WP cl Y (ra x) w elt (g x)) (hs : ∀ x, foldedSetIterable it X.env x = pure x := by intro _; rfl) :
    WP cl X r w (.ListComp elt [⟨tg, it, ifs, 0⟩] scope pos) (.lst ((xs.filter f).map g)) := fun s σ I Q k => by
  obtain ⟨dd, vs, h1, h2, h3, h4⟩ := hi s σ I
  refine te_lock I h1 (fun H1 od hf I1 Q1 k1 => ⟨_, pe_lc hc hN sI ok suG suTs suE hs, lc_pureS ⟨s.H0, H1, s.ps⟩ σ I1 hz (fun Q2 k2 => ⟨_, pi_keys sE, ?_⟩) his hg ht he Q1 k1⟩) Q k
  refine h4 H1 I1 _ ⟨dd, od, rfl, .inl ⟨_, hf, k2 _ ⟨s.H0, H1, s.ps⟩ (.refl _) I1.ok ?_⟩⟩
  rw [← hk]
  exact itd_keys hf (I.ok.notow h1) (by rw [h3.length]; exact h2)
end

/-! ### dict comprehensions -/
def aput (k : Int) (x : D) : List (Int × D) → List (Int × D)
  | [] => [(k, x)]
  | (j, y) :: l => if j = k then (j, x) :: l else (j, y) :: aput k x l
abbrev dD (l : List (Int × D)) : D := .dic (l.map (·.1)) (l.map (·.2))
theorem putK_cons {p : Key × V} {l : List (Key × V)} {k : Key} {v : V} (nd : ((p :: l).map (·.1)).Nodup) : L2.putK (p :: l) k v = if p.1 = k then (p.1, v) :: l else p :: L2.putK l k v := by
  have nd' : p.1 ∉ l.map (·.1) := (List.nodup_cons.mp nd).1
  unfold L2.putK
  rw [List.any_cons]
  by_cases h : p.1 = k
  · rw [decide_eq_true h, Bool.true_or, if_pos rfl, if_pos h, List.map_cons, if_pos h]
    congr 1
    refine (List.map_congr_left fun q hq => ?_).trans (List.map_id l)
    have : q.1 ≠ k := fun e => nd' (by rw [h, ← e]; exact List.mem_map.mpr ⟨q, hq, rfl⟩)
    rw [if_neg this]
    rfl
  · rw [decide_eq_false h, Bool.false_or, if_neg h, List.map_cons, if_neg h]
    by_cases g : (l.any fun kv => decide (kv.1 = k)) = true
    · rw [if_pos g, if_pos g]
    · rw [if_neg g, if_neg g]
      rfl
theorem aput_mem {k j : Int} {x : D} : ∀ {l : List (Int × D)}, j ∈ (aput k x l).map (·.1) → j = k ∨ j ∈ l.map (·.1)
  | [], h => by
    have : j = k := by simpa [aput] using h
    exact .inl this
  | (i, y) :: l, h => by
    unfold aput at h
    split at h
    · exact .inr h
    · rw [List.map_cons, List.mem_cons] at h
      rcases h with h | h
      · exact .inr (by rw [List.map_cons, List.mem_cons]; exact .inl h)
      · rcases aput_mem h with z | z
        · exact .inl z
        · exact .inr (by rw [List.map_cons, List.mem_cons]; exact .inr z)
theorem aput_nodup {k : Int} {x : D} : ∀ {l : List (Int × D)}, (l.map (·.1)).Nodup → ((aput k x l).map (·.1)).Nodup
  | [], _ => by simp [aput]
  | (i, y) :: l, h => by
    rw [List.map_cons, List.nodup_cons] at h
    unfold aput
    split
    · rw [List.map_cons, List.nodup_cons]
      exact h
    · rename_i q
      rw [List.map_cons, List.nodup_cons]
      refine ⟨fun z => ?_, aput_nodup h.2⟩
      rcases aput_mem z with z | z
      · exact q z
      · exact h.1 z
theorem aput_len {k : Int} {x : D} : ∀ l : List (Int × D), (aput k x l).length ≤ l.length + 1
  | [] => by simp [aput]
  | (i, y) :: l => by
    unfold aput
    split
    · simp
    · have := aput_len (k := k) (x := x) l
      simp
      exact this
theorem kvs_nodup {ks : List Int} {vs : List V} (hl : ks.length = vs.length) (nd : ks.Nodup) : ((kvs ks vs).map (·.1)).Nodup := by
  rw [kvs_keys hl]
  exact nd.map Sum.inl fun a b h => by
    intro z
    exact h (Sum.inl.inj z)
theorem putK_kvs {H : Hp} {k : Int} {v : V} (rv : R cl H x v) : ∀ {l : List (Int × D)} {vs : List V}, (l.map (·.1)).Nodup → Rs cl H (l.map (·.2)) vs → ∃ us, L2.putK (kvs (l.map (·.1)) vs) (Sum.inl k) v = kvs ((aput k x l).map (·.1)) us ∧ Rs cl H ((aput k x l).map (·.2)) us
  | [], vs, _, h => by
    obtain rfl : vs = [] := h
    exact ⟨[v], rfl, .one rv⟩
  | (j, y) :: l, _, nd, ⟨u, t, e, h1, h2⟩ => by
    subst e
    have nd2 : (l.map (·.1)).Nodup := (List.nodup_cons.mp (by simpa using nd)).2
    have hl : (((j, y) :: l).map (·.1)).length = (u :: t).length := by
      have := h2.length
      simp at this ⊢
      omega
    have nd3 := kvs_nodup hl nd
    have ee : kvs (((j, y) :: l).map (·.1)) (u :: t) = (Sum.inl j, u) :: kvs (l.map (·.1)) t := rfl
    rw [ee] at nd3 ⊢
    rw [putK_cons nd3]
    unfold aput
    by_cases h : j = k
    · rw [if_pos (by rw [h]), if_pos h]
      exact ⟨v :: t, rfl, .cons rv h2⟩
    · rw [if_neg (key_ne h), if_neg h]
      obtain ⟨us, g1, g2⟩ := putK_kvs rv nd2 h2
      exact ⟨u :: us, by rw [g1]; rfl, .cons h1 g2⟩
end
end FV
set_option Elab.async false
set_option linter.all false
set_option maxRecDepth 100000
set_option maxHeartbeats 2000000
/-! The data layer, part K: dict comprehensions, dicts changed. -/
namespace FV
open PySem PySem.Spec PyProof.Rows L2
section
variable {cl : Nat → Addr} {X : Cx} {r : List Sl} {w : List Ow} {e a b c tg : Expr} {d x y z : D} {pos p p2 : Pos} {n : Str} {es : List Expr} {ds : List D} {k m : Nat} {kx vx it : Expr} {ifs : List Expr} {scope : Scope} {own : List (Str × Nat)} {α : Type}
/-- the entries made of xs -/
def dacc (key : α → Int) (val : α → D) (xs : List α) : List (Int × D) := xs.foldl (fun l x => aput (key x) (val x) l) []
theorem dacc_snoc {key : α → Int} {val : α → D} {xs : List α} {x : α} : dacc key val (xs ++ [x]) = aput (key x) (val x) (dacc key val xs) := by
  unfold dacc
  rw [List.foldl_append]
  rfl
theorem fold_nodup {key : α → Int} {val : α → D} : ∀ (xs : List α) (l : List (Int × D)), (l.map (·.1)).Nodup → ((xs.foldl (fun l x => aput (key x) (val x) l) l).map (·.1)).Nodup
  | [], _, h => h
  | _ :: xs, _, h => fold_nodup xs _ (aput_nodup h)
theorem dacc_nodup {key : α → Int} {val : α → D} (xs : List α) : ((dacc key val xs).map (·.1)).Nodup := fold_nodup xs [] List.nodup_nil
theorem fold_len {key : α → Int} {val : α → D} : ∀ (xs : List α) (l : List (Int × D)), (xs.foldl (fun l x => aput (key x) (val x) l) l).length ≤ l.length + xs.length
  | [], _ => Nat.le_refl _
  | x :: xs, l => by
    have h1 := fold_len (key := key) (val := val) xs (aput (key x) (val x) l)
    have h2 := aput_len (k := key x) (x := val x) l
    rw [List.foldl_cons, List.length_cons]
    omega
theorem aput_new {k : Int} {x : D} : ∀ {l : List (Int × D)}, k ∉ l.map (·.1) → aput k x l = l ++ [(k, x)]
  | [], _ => rfl
  | (j, y) :: l, h => by
    rw [List.map_cons, List.mem_cons, not_or] at h
    unfold aput
    rw [if_neg (fun z => h.1 z.symm), aput_new h.2]
    rfl
theorem fold_new {key : α → Int} {val : α → D} : ∀ (xs : List α) (l : List (Int × D)), (l.map (·.1) ++ xs.map key).Nodup → xs.foldl (fun l x => aput (key x) (val x) l) l = l ++ xs.map fun x => (key x, val x)
  | [], l, _ => by simp
  | x :: xs, l, h => by
    have h2 : key x ∉ l.map (·.1) := fun z => (List.nodup_append.mp h).2.2 (key x) z (key x) (by simp) rfl
    rw [List.foldl_cons, aput_new h2, fold_new xs]
    · simp
    · simpa using h
theorem dacc_new {key : α → Int} {val : α → D} {xs : List α} (h : (xs.map key).Nodup) : dacc key val xs = xs.map fun x => (key x, val x) := (fold_new xs [] (by simpa using h)).trans (List.nil_append _)
/-- the reading of a dict comprehension, pure -/
theorem dc_pureS {xs : List α} {enc : α → D} {ra : α → List Sl} {f : α → Bool} {key : α → Int} {val : α → D} {is : List Nat} (s : Sta) (σ : L2.St) (I : Env X.K cl s σ r w) (hz : xs.length ≤ 100000)
    (hi : ∀ Q : It → Hp → Prop, (∀ J s', Step s s' → Ok X.K cl s' w → ItD X.K cl J s' (xs.map enc) → Q J s'.H) → tIr X tg it σ s.H Q) (his : ∀ i ∈ is, i ∈ own.map (·.2))
    (hg : ∀ x ∈ xs, InBlk X scope fun Y => WG cl Y (wipeR r (own.map (·.2))) w tg (enc x) is (ra x))
    (ht : ∀ x ∈ xs, InBlk X scope fun Y => WTs cl Y (ra x) w ifs (f x))
    (hk : ∀ x ∈ xs, f x = true → InBlk X scope fun Y => WP cl Y (ra x) w kx (.int (key x)))
    (hv : ∀ x ∈ xs, f x = true → InBlk X scope fun Y => WP cl Y (ra x) w vx (val x))
    (Q : VK) (k : ∀ v s', Step s s' → Ok X.K cl s' w → R cl s'.H0 (dD (dacc key val (xs.filter f))) v → Q v s'.H) :
    tDc (tIr X tg it) (uG X scope tg) (uTs X scope ifs) (uE X scope kx) (uE X scope vx) (own.map (·.2)) σ s.H Q := by
  refine hi _ fun J s1 st1 ok1 itd A nA => ?_
  have I1 := I.step st1 ok1
  refine ⟨fun i m H => m = xs.length - i ∧ i ≤ xs.length ∧ ∃ sx vs, sx.H = H ∧ Hid X.K cl s1 w sx w A (.dK (kvs ((dacc key val ((xs.take i).filter f)).map (·.1)) vs)) ∧ Rs cl sx.H0 ((dacc key val ((xs.take i).filter f)).map (·.2)) vs, ⟨xs.length, by simp, Nat.zero_le _, ⟨s1.H0, upd s1.H A (.dK []), s1.ps⟩, [], rfl, Hid.start ok1 nA, .nil⟩, ?_⟩
  rintro i m H ⟨rfl, hi', sx, vs, rfl, hd, hr⟩
  by_cases hlt : i < xs.length
  · have hx : xs[i]? = some xs[i] := List.getElem?_eq_getElem hlt
    have hmem : xs[i] ∈ xs := List.getElem_mem hlt
    obtain ⟨go, yl⟩ := itd.item i (enc xs[i]) sx hd.st hd.ok.lk (by rw [List.getElem?_map, hx]; rfl)
    refine .inr ⟨go, fun H' => ∃ sx vs, sx.H = H' ∧ Hid X.K cl s1 w sx w A (.dK (kvs ((dacc key val ((xs.take (i + 1)).filter f)).map (·.1)) vs)) ∧ Rs cl sx.H0 ((dacc key val ((xs.take (i + 1)).filter f)).map (·.2)) vs, fun H' ⟨sx, vs, q⟩ => ⟨xs.length - (i + 1), by omega, rfl, hlt, sx, vs, q⟩, fun v H' y => ?_⟩
    obtain ⟨sy, rfl, sty, oky, rv⟩ := yl v H' y
    have hd2 := hd.step sty (oky _ hd.ok) rfl
    have hr2 := hr.mono sty.e0
    have J0 : Env X.K cl sy (wipe σ (own.map (·.2))) (wipeR r (own.map (·.2))) w := ⟨hd2.ok, (I1.sl.step hd2.st).wipe _⟩
    intro b1 b2 b3 b4 b5
    refine hg _ hmem b1 b2 b3 b4 b5 sy _ v J0 rv _ fun σ2 k2 l2 c2 => ⟨wipe_same l2 his c2, ?_⟩
    have J1 : Env X.K cl sy σ2 (ra xs[i]) w := ⟨hd2.ok, k2⟩
    intro c1 c2' c3 c4 c5
    refine ht _ hmem c1 c2' c3 c4 c5 sy σ2 J1 _ fun sz stz okz => ?_
    have hd3 := hd2.step stz okz rfl
    have hr3 := hr2.mono stz.e0
    cases hf : f xs[i] with
    | false =>
      rw [if_neg Bool.false_ne_true]
      refine ⟨sz, vs, rfl, ?_⟩
      rw [filter_take hx, if_neg (by rw [hf]; exact Bool.false_ne_true), List.append_nil]
      exact ⟨hd3, hr3⟩
    | true =>
      rw [if_pos rfl]
      intro d1 d2 d3 d4 d5
      refine hk _ hmem hf d1 d2 d3 d4 d5 sz σ2 ⟨okz, J1.sl.step stz⟩ _ fun kv s3 st3 ok3 rk => ?_
      have hd4 := hd3.step st3 ok3 rfl
      intro f1 f2 f3 f4 f5
      refine hv _ hmem hf f1 f2 f3 f4 f5 s3 σ2 ⟨ok3, (J1.sl.step stz).step st3⟩ _ fun vv s4 st4 ok4 rv4 => ?_
      have hd5 := hd4.step st4 ok4 rfl
      have hr5 := (hr3.mono st3.e0).mono st4.e0
      obtain rfl : kv = .int (key xs[i]) := rk
      obtain ⟨us, g1, g2⟩ := putK_kvs (k := key xs[i]) rv4 (dacc_nodup _) hr5
      refine ⟨_, Sum.inl (key xs[i]), rfl, hd5.at_, ?_, ⟨s4.H0, upd s4.H A (.dK (L2.putK (kvs ((dacc key val ((xs.take i).filter f)).map (·.1)) vs) (Sum.inl (key xs[i])) vv)), s4.ps⟩, us, rfl, ?_⟩
      · have l1 := hr5.length
        have l2 := fold_len (key := key) (val := val) ((xs.take i).filter f) []
        have l3 := List.length_filter_le f (xs.take i)
        have l4 : (dacc key val ((xs.take i).filter f)).length ≤ ((xs.take i).filter f).length := by
          unfold dacc
          simpa using l2
        rw [List.length_take] at l3
        have : (kvs ((dacc key val ((xs.take i).filter f)).map (·.1)) vs).length = (dacc key val ((xs.take i).filter f)).length := by
          simp [kvs] at l1 ⊢
          omega
        rw [this]
        exact Nat.lt_of_le_of_lt (m := 100000) (by omega) (by decide)
      · rw [filter_take hx, if_pos hf, dacc_snoc, g1]
        exact ⟨hd5.put, g2⟩
  · have e : i = xs.length := by omega
    subst e
    have hs := itd.stop sx hd.st hd.ok.lk
    rw [List.length_map] at hs
    rw [List.take_length] at hd hr
    obtain ⟨z1, z2, z3⟩ := hd.show_
    refine .inl ⟨hs, k _ ⟨upd sx.H0 A _, sx.H, sx.ps⟩ (st1.trans z1) z2 ⟨A, vs, rfl, upd_same, ?_, dacc_nodup _, hr.mono z3⟩⟩
    rw [List.length_map, List.length_map]
theorem wp_dc {xs : List α} {enc : α → D} {ra : α → List Sl} {f : α → Bool} {key : α → Int} {val : α → D} {is : List Nat} (own : List (Str × Nat)) (hc : X.calm = true) (hN : X.N.Nodup) (ok : BlkOk X.N X.env.scope scope own) (hz : xs.length ≤ 100000) (hi : WI cl X r w tg it (xs.map enc)) (his : ∀ i ∈ is, i ∈ own.map (·.2))
    (hg : ∀ x ∈ xs, InBlk X scope fun Y => WG cl Y (wipeR r (own.map (·.2))) w tg (enc x) is (ra x))
    (ht : ∀ x ∈ xs, InBlk X scope fun Y => WTs cl Y (ra x) w ifs (f x))
    (hk : ∀ x ∈ xs, f x = true → InBlk X scope fun Y => WP cl Y (ra x) w kx (.int (key x)))
    (hv : ∀ x ∈ xs, f x = true → InBlk X scope fun Y => WP cl Y (ra x) w vx (val x)) (hs : ∀ x, foldedSetIterable it X.env x = pure x := by intro _; rfl) :
    WP cl X r w (.DictComp kx vx [⟨tg, it, ifs, 0⟩] scope pos) (dD (dacc key val (xs.filter f))) := fun s σ I Q k =>
  ⟨_, pe_dc hc hN sI ok suG suTs suE suE hs, dc_pureS s σ I hz (hi s σ I) his hg ht hk hv Q k⟩
/-- over a dict's keys -/
theorem wp_dcK {xs : List α} {enc : α → D} {ra : α → List Sl} {f : α → Bool} {key : α → Int} {val : α → D} {is : List Nat} {ks : List Int} (own : List (Str × Nat)) (hc : X.calm = true) (hN : X.N.Nodup) (ok : BlkOk X.N X.env.scope scope own) (hz : xs.length ≤ 100000) (hi : DAt cl X r w it ks ds) (hkk : ks.map D.int = xs.map enc) (his : ∀ i ∈ is, i ∈ own.map (·.2))
    (hg : ∀ x ∈ xs, InBlk X scope fun Y => WG cl Y (wipeR r (own.map (·.2))) w tg (enc x) is (ra x))
    (ht : ∀ x ∈ xs, InBlk X scope fun Y => WTs cl Y (ra x) w ifs (f x))
    (hk : ∀ x ∈ xs, f x = true → InBlk X scope fun Y => WP cl Y (ra x) w kx (.int (key x)))
    (hv : ∀ x ∈ xs, f x = true → InBlk X scope fun Y => WP cl Y (ra x) w vx (val x)) (hs : ∀ x, foldedSetIterable it X.env x = pure x := by intro _; rfl) :
    WP cl X r w (.DictComp kx vx [⟨tg, it, ifs, 0⟩] scope pos) (dD (dacc key val (xs.filter f))) := fun s σ I Q k => by
  obtain ⟨dd, vs, h1, h2, h3, h4⟩ := hi s σ I
  refine te_lock I h1 (fun H1 od hf I1 Q1 k1 => ⟨_, pe_dc hc hN sI ok suG suTs suE suE hs, dc_pureS ⟨s.H0, H1, s.ps⟩ σ I1 hz (fun Q2 k2 => ⟨_, pi_keys sE, ?_⟩) his hg ht hk hv Q1 k1⟩) Q k
  refine h4 H1 I1 _ ⟨dd, od, rfl, .inl ⟨_, hf, k2 _ ⟨s.H0, H1, s.ps⟩ (.refl _) I1.ok ?_⟩⟩
  rw [← hkk]
  exact itd_keys hf (I.ok.notow h1) (by rw [h3.length]; exact h2)
/-- over a dict's values -/
theorem wp_dcV {xs : List α} {enc : α → D} {ra : α → List Sl} {f : α → Bool} {key : α → Int} {val : α → D} {is : List Nat} {ks : List Int} {apos cpos : Pos} (own : List (Str × Nat)) (hc : X.calm = true) (hN : X.N.Nodup) (ok : BlkOk X.N X.env.scope scope own) (hz : xs.length ≤ 100000) (hi : DAt cl X r w it ks (xs.map enc)) (his : ∀ i ∈ is, i ∈ own.map (·.2))
    (hg : ∀ x ∈ xs, InBlk X scope fun Y => WG cl Y (wipeR r (own.map (·.2))) w tg (enc x) is (ra x))
    (ht : ∀ x ∈ xs, InBlk X scope fun Y => WTs cl Y (ra x) w ifs (f x))
    (hk : ∀ x ∈ xs, f x = true → InBlk X scope fun Y => WP cl Y (ra x) w kx (.int (key x)))
    (hv : ∀ x ∈ xs, f x = true → InBlk X scope fun Y => WP cl Y (ra x) w vx (val x)) (hs : ∀ x, foldedSetIterable (.Call (.Attribute it "values" apos) [] [] cpos) X.env x = pure x := by intro _; rfl) (hbase : attributeBase it "values" X.env (eval it X.env) = eval it X.env := by rfl) (hline : (apos.endLine == cpos.line) = true := by rfl) :
    WP cl X r w (.DictComp kx vx [⟨tg, .Call (.Attribute it "values" apos) [] [] cpos, ifs, 0⟩] scope pos) (dD (dacc key val (xs.filter f))) := fun s σ I Q k => by
  obtain ⟨dd, vs, h1, h2, h3, h4⟩ := hi s σ I
  refine te_lock I h1 (fun H1 od hf I1 Q1 k1 => ⟨_, pe_dc hc hN sI ok suG suTs suE suE hs, dc_pureS (it := .Call (.Attribute it "values" apos) [] [] cpos) ⟨s.H0, H1, s.ps⟩ σ I1 hz (fun Q2 k2 => ⟨_, pi_values sE hbase hline, ?_⟩) his hg ht hk hv Q1 k1⟩) Q k
  exact h4 H1 I1 _ ⟨dd, od, _, rfl, hf, k2 _ ⟨s.H0, H1, s.ps⟩ (.refl _) I1.ok (itd_vals hf (I.ok.notow h1) h2 h3)⟩

/-! ### d[k] = v, d an owned dict -/
theorem ws_dput {kk m : Nat} {F : Ph} (i : Nat) {nn : Nat} {l : List (Int × D)} {j : Int} {pos' : Pos} (hR : Room kk X.A) (hr : r[i]? = some (.o nn)) (hw : w[nn]? = some (.dic (l.map (·.1)) (l.map (·.2)))) (hv : WP cl X r w e d) (hk : WP cl X r w b (.int j)) (hl : l.length < 100000) (k : F.nx r (w.set nn (.dic ((aput j d l).map (·.1)) ((aput j d l).map (·.2))))) (hN : X.N[i]? = some n := by rfl) (hvis : Vis X.env.scope n := by first | exact Or.inl rfl | exact Or.inr (Or.inl rfl))
    (hd : (n == ("__debug__" : Str)) = false := by decide) (hcd : (n == ("__classdict__" : Str)) = false := by decide) (hs : swapsWith e (some (.Subscript (.Name n p) b pos')) pos.line X.env = pure false := by rfl) :
    WS cl X m r w (.Assign [.Subscript (.Name n p) b pos'] e pos) F := fun B s σ D hm st I C => by
  obtain ⟨v, e1, p0, e2, e3⟩ := I.sl.get hr
  subst e3
  refine ⟨_, ps_dput (hu_of hR) (pe_var hN hvis hd hcd) sE sE hs, hv s σ I _ fun u s1 st1 ok1 r1 => ⟨_, e1, ?_⟩⟩
  refine hk s1 σ (I.step st1 ok1) _ fun kv s2 st2 ok2 r2 => ?_
  obtain rfl : kv = .int j := r2
  have hps : s2.ps = s.ps := ps_same (st1.trans st2) I.ok ok2 rfl
  have e4 : s2.ps[nn]? = some (some p0) := by rw [hps]; exact e2
  obtain ⟨h0, vs, g1, g2, g3, g4⟩ := ok2.own_at e4 hw
  obtain ⟨us, q1, q2⟩ := putK_kvs (k := j) (r1.mono st2.e0) g3 g4
  have hlen : (kvs (l.map (·.1)) vs).length < sizeLine := by
    have := g4.length
    have : (kvs (l.map (·.1)) vs).length = l.length := by
      simp [kvs] at this ⊢
      omega
    rw [this]
    exact Nat.lt_trans hl (by decide)
  refine ⟨p0, _, rfl, DPut.k (k := Sum.inl j) g1 hlen, ?_⟩
  rw [q1]
  refine C.nx ⟨s2.H0, upd s2.H p0 (.dK (kvs ((aput j d l).map (·.1)) us)), s2.ps⟩ σ r _ (((st.trans st1).trans st2).own_set (st.e4 p0 (mem_ps e2))) ⟨ok2.own_set (u := .dic ((aput j d l).map (·.1)) ((aput j d l).map (·.2))) e4 ⟨h0, us, upd_same, ?_, aput_nodup g3, q2⟩, ((I.sl.step st1).step st2).heap⟩ k
  rw [List.length_map, List.length_map]
end
end FV
set_option Elab.async false
set_option linter.all false
set_option maxRecDepth 100000
set_option maxHeartbeats 2000000
/-! The data layer, part L: instances made, calls that change an owned object. -/
namespace FV
open PySem PySem.Spec PyProof.Rows L2

/-! ### a part of the owned objects -/
theorem part_in {K : PySem.W.Frag} {cl : Nat → Addr} {s : Sta} {w : List Ow} (ok : Ok K cl s w) {n : Nat} {p : Addr} {u : Ow} (hn : s.ps[n]? = some (some p)) (hw : w[n]? = some u) : Ok K cl ⟨s.H0, s.H, [some p]⟩ [u] := by
  have one : ∀ {i : Nat} {q : Addr}, ([some p] : List (Option Addr))[i]? = some (some q) → i = 0 ∧ q = p := fun {i q} e => by
    have h1 := (List.getElem?_eq_some_iff.mp e).1
    simp only [List.length_singleton] at h1
    have : i = 0 := by omega
    subst this
    simp only [List.getElem?_cons_zero, Option.some.injEq] at e
    exact ⟨rfl, e.symm⟩
  refine ⟨ok.lk, fun i j q e1 e2 => ?_, rfl, fun i q v e1 e2 => ?_, fun m p' q e => tb_app (ps := []) (w := []) (fun _ _ _ z => by simp at z) rfl (ok.ow n p u hn hw).tbp m p' q e⟩
  · rw [(one e1).1, (one e2).1]
  · obtain ⟨rfl, rfl⟩ := one e1
    simp only [List.getElem?_cons_zero, Option.some.injEq] at e2
    subst e2
    exact ok.ow n _ _ hn hw
theorem part_out {K : PySem.W.Frag} {cl : Nat → Addr} {s s' : Sta} {w : List Ow} (ok : Ok K cl s w) {n : Nat} {p : Addr} {u : Ow} (hn : s.ps[n]? = some (some p)) (st : Step ⟨s.H0, s.H, [some p]⟩ s') (ok' : Ok K cl s' [u]) : Step s ⟨s'.H0, s'.H, s.ps⟩ ∧ Ok K cl ⟨s'.H0, s'.H, s.ps⟩ (w.set n u) := by
  have hps : s'.ps = [some p] := by
    obtain ⟨t, ht⟩ := st.e3
    have h1 := ok'.len
    have ht : [some p] ++ t = s'.ps := ht
    rw [← ht] at h1 ⊢
    simp at h1
    rw [h1]
    rfl
  have e1 : ∀ x o, s.H x = some o → x ≠ p → s'.H x = some o := fun x o e h => st.e1 x o e (by simpa using h)
  refine ⟨⟨st.e0, fun x o e h => e1 x o e fun z => h (by rw [z]; exact mem_ps hn), st.e2, List.prefix_refl _, fun _ h => .inl h, fun x _ e => ?_⟩, ok'.lk, ok.nd, by rw [List.length_set]; exact ok.len, fun i q v g1 g2 => ?_, tb_set ok.tb fun p' q e => by rw [← (ok'.ow 0 p u (by rw [hps]; rfl) rfl).tbp p' q e]; exact hn⟩
  · exact st.some_ (x := x) e
  · have g1 : s.ps[i]? = some (some q) := g1
    by_cases z : n = i
    · subst z
      rw [hn] at g1
      cases g1
      rw [List.getElem?_set_self (by rw [← ok.len]; exact ps_get hn)] at g2
      cases g2
      exact ok'.ow 0 p u (by rw [hps]; rfl) rfl
    · rw [List.getElem?_set_ne z] at g2
      have hne : q ≠ p := fun e => z (ok.nd n i p hn (by rw [← e]; exact g1))
      obtain ⟨live1, live2⟩ := ok.own (mem_ps g1)
      obtain ⟨o, ho⟩ := Option.isSome_iff_exists.mp live2
      refine (ok.ow i q v g1 g2).ext st.e0 (fun g => ?_) ((e1 q o ho hne).trans ho.symm)
      show s'.H0 q = none
      cases hh : s'.H0 q with
      | none => rfl
      | some o2 =>
        rcases st.e2 q o2 hh with a | a
        · have a : s.H0 q = some o2 := a
          rw [g] at a
          cases a
        · have a : s.H q = none := a
          rw [a] at ho
          cases ho

/-! ### instances -/
/-- an __init__: from the data ds, where c holds, the fields fs with the data ys -/
def spI (K : PySem.W.Frag) (cl : Nat → Addr) (c : Nat) (ds : List D) (pre : Prop) (fs : List Str) (ys : List D) : Sp := fun vs H Q _ => ∃ (s : Sta) (x : Addr) (us : List V), vs = .ref x :: us ∧ s.H = H ∧ s.ps = [some x] ∧ Ok K cl s [.ins c [] []] ∧ Rs cl s.H0 ds us ∧ pre ∧
  ∀ s', Step s s' → Ok K cl s' [.ins c fs ys] → Q .non s'.H
section
variable {P : Program} {W : World} {K : PySem.W.Frag} {mg : Str → Option Value} {base : Heap} {cl : Nat → Addr} {name qual : Str} {params : Arguments} {body : List Stmt} {scope : Scope} {f : Addr} {fd : FuncData} {N ps : List Str} {k c : Nat} {ds0 ys : List D} {fs : List Str} {pre : Prop}
theorem fn_init (F : FunD K name qual params body scope [] [] f fd) (S : FnScope N ps scope) (hl : ds0.length + 1 = ps.length)
    (hb : pre → ∀ cdv A outer s H E, Room k (Xd P W K mg base N qual scope f cdv A outer s H E).A →
      WSs cl (Xd P W K mg base N qual scope f cdv A outer s H E) 1 (.o 0 :: ds0.map Sl.d ++ List.replicate (N.length - (ds0.length + 1)) .u) [.ins c [] []] body { nx := fun _ w => w = [.ins c fs ys] }) : FnOk P W K mg base CX0 (k + 1) f fd ps (spI K cl c ds0 pre fs ys) := by
  refine F.ok S (fun vs H Q E h => ?_) (fun cdv A outer s H vs Q E hr h => ?_)
  · obtain ⟨s, x, us, rfl, _, _, _, rs, _⟩ := h
    rw [List.length_cons, rs.length]
    exact hl
  · obtain ⟨s0, x, us, rfl, rfl, hps, ok, rs, hp, q⟩ := h
    have key := hb hp cdv A outer s s0.H E hr
    refine ⟨_, PSs.nox sSs, ?_⟩
    refine key s0 s0 (L2.start N (.ref x :: us)) _ (by rw [hps]; rfl) (.refl s0) ⟨ok, ?_⟩ ⟨?_, ?_, ?_, ?_⟩
    · unfold L2.start
      rw [List.length_cons, rs.length]
      refine ⟨some (.ref x), _, rfl, ⟨x, by rw [hps]; rfl, rfl⟩, ?_⟩
      exact (Rvs.ds rs).append (Rvs.us _ _)
    · intro s1 σ1 r1 w1 st1 I1 e
      have e : w1 = _ := e
      subst e
      exact q s1 st1 I1.ok
    · exact fun _ _ _ _ _ _ _ h => h.elim
    · exact fun _ _ _ _ _ _ h => h.elim
    · exact fun _ _ _ _ _ _ h => h.elim
end
theorem putF_new {f : Str} {v : V} : ∀ {fs : List Str} {vs : List V}, f ∉ fs → fs.length = vs.length → L2.putF f v (fs.zip vs) = (fs ++ [f]).zip (vs ++ [v])
  | [], [], _, _ => rfl
  | [], _ :: _, _, h => by simp at h
  | _ :: _, [], _, h => by simp at h
  | g :: fs, u :: vs, h, hl => by
    rw [List.mem_cons, not_or] at h
    show (if g = f then _ else _) = _
    rw [if_neg (fun z => h.1 z.symm)]
    exact congrArg _ (putF_new h.2 (by simpa using hl))
section
variable {cl : Nat → Addr} {X : Cx} {r : List Sl} {w : List Ow} {e a b tg : Expr} {d x y z : D} {pos p p2 : Pos} {n : Str} {es : List Expr} {ds ys : List D} {k m c : Nat} {fs ps : List Str} {F : Ph} {pre : Prop} {CX : CXT}
/-- self.f = e -/
theorem ws_fld (i : Nat) {nn : Nat} {f : Str} {pos' : Pos} (C : Cls X.K (cl c)) (na : NoAttr X.K (cl c) f) (hr : r[i]? = some (.o nn)) (hw : w[nn]? = some (.ins c fs ys)) (nf : f ∉ fs) (hsz : fs.length < 100) (hv : WP cl X r w e d) (k : F.nx r (w.set nn (.ins c (fs ++ [f]) (ys ++ [d])))) (hN : X.N[i]? = some n := by rfl) (hvis : Vis X.env.scope n := by first | exact Or.inl rfl | exact Or.inr (Or.inl rfl))
    (hd : (n == ("__debug__" : Str)) = false := by decide) (hcd : (n == ("__classdict__" : Str)) = false := by decide) (hs : swapsWith e (some (.Attribute (.Name n p) f pos')) pos.line X.env = pure false := by rfl) :
    WS cl X m r w (.Assign [.Attribute (.Name n p) f pos'] e pos) F := fun B s σ D hm st I C' => by
  obtain ⟨v, e1, p0, e2, e3⟩ := I.sl.get hr
  subst e3
  refine ⟨_, ps_fld (pe_var hN hvis hd hcd) sE hs, hv s σ I _ fun u s1 st1 ok1 r1 => ⟨_, e1, ?_⟩⟩
  have hps : s1.ps = s.ps := ps_same st1 I.ok ok1 rfl
  have e4 : s1.ps[nn]? = some (some p0) := by rw [hps]; exact e2
  obtain ⟨h0, dx, vs, g1, g2, g3⟩ := ok1.own_at e4 hw
  have hlv : fs.length = vs.length := by rw [g3.length]; exact g2
  refine ⟨p0, cl c, dx, _, rfl, g1, C, na, by simp; omega, ?_⟩
  rw [putF_new nf hlv]
  refine C'.nx ⟨s1.H0, upd s1.H p0 (.ins (cl c) dx ((fs ++ [f]).zip (vs ++ [u]))), s1.ps⟩ σ r _ ((st.trans st1).own_set (st.e4 p0 (mem_ps e2))) ⟨ok1.own_set (u := .ins c (fs ++ [f]) (ys ++ [d])) e4 ⟨h0, dx, _, upd_same, ?_, g3.append (.one r1)⟩, (I.sl.step st1).heap⟩ k
  rw [List.length_append, List.length_append, g2]
  rfl
/-- C(e, ..) -/
theorem wp_make (M : KCal X.prog X.w X.K X.mg X.base CX k (cl c) n ps (spI X.K cl c ds pre fs ys)) (hr : Room (k + 1) X.A) (ha : WAp cl X r w (e :: es) ds) (hp : pre) {E : XK} (hx : Passes CX X E) (hg : Gl X n := by rfl) (hdb : (n == ("__debug__" : Str)) = false := by decide)
    (he : starEach (e :: es) X.env = (false, eval e X.env) :: starEach es X.env := by rfl) (hpl : (backTo pos (starEach es X.env)).any (·.1) = false := by rfl) : WP cl X r w (.Call (.Name n p) (e :: es) [] pos) (.obj c fs ys) := fun s σ I Q q => by
  obtain ⟨fI, fd, FI, gm, mk, hb⟩ := M
  refine ⟨_, pe_make mk FI hr hg gm hb .nil hx sA hdb he hpl, ha s σ I _ fun vs s1 st1 ok1 rs x dx nx ndx hne => ?_⟩
  have hx0 := ok1.lk.nil nx
  have hdx0 := ok1.lk.nil ndx
  have hH : ∀ y, y ≠ x → y ≠ dx → upd (upd s1.H dx (.own x)) x (.ins (cl c) dx []) y = s1.H y := fun y h1 h2 => by rw [upd_ne h1, upd_ne h2]
  have hHs : ∀ y u, s1.H y = some u → y ≠ x ∧ y ≠ dx := fun y u h => ⟨ne_of_none h nx, ne_of_none h ndx⟩
  have l2 : Lk s1.H0 (upd (upd s1.H dx (.own x)) x (.ins (cl c) dx [])) := fun a u h => by
    have n1 : a ≠ x := ne_of_none h hx0
    have n2 : a ≠ dx := ne_of_none h hdx0
    rw [hH a n1 n2]
    exact ok1.lk a u h
  refine ⟨⟨s1.H0, upd (upd s1.H dx (.own x)) x (.ins (cl c) dx []), [some x]⟩, x, vs ++ [], rfl, rfl, rfl, ?_, by rw [List.append_nil]; exact rs, hp, fun s' st' ok' => ⟨rfl, ?_⟩⟩
  · have one : ∀ {i : Nat} {q : Addr}, ([some x] : List (Option Addr))[i]? = some (some q) → i = 0 ∧ q = x := fun {i q} e => by
      have h1 := (List.getElem?_eq_some_iff.mp e).1
      simp only [List.length_singleton] at h1
      have : i = 0 := by omega
      subst this
      simp only [List.getElem?_cons_zero, Option.some.injEq] at e
      exact ⟨rfl, e.symm⟩
    refine ⟨l2, fun i j q e1 e2 => ?_, rfl, fun i q v e1 e2 => ?_, tb_app (ps := []) (w := []) (fun _ _ _ z => by simp at z) rfl fun p q e => by cases e⟩
    · rw [(one e1).1, (one e2).1]
    · obtain ⟨rfl, rfl⟩ := one e1
      simp only [List.getElem?_cons_zero, Option.some.injEq] at e2
      subst e2
      exact ⟨hx0, dx, [], upd_same, rfl, .nil⟩
  · have hps : s'.ps = [some x] := by
      obtain ⟨t, ht⟩ := st'.e3
      have h1 := ok'.len
      have ht : [some x] ++ t = s'.ps := ht
      rw [← ht] at h1 ⊢
      simp at h1
      rw [h1]
      rfl
    obtain ⟨h0, dx', us, g1, g2, g3⟩ := ok'.ow 0 x _ (by rw [hps]; rfl) rfl
    have keep : ∀ y u, s1.H y = some u → s'.H y = some u := fun y u h => by
      obtain ⟨n1, n2⟩ := hHs y u h
      refine st'.e1 y u ?_ (by simpa using n1)
      show upd (upd s1.H dx (.own x)) x _ y = _
      rw [hH y n1 n2]
      exact h
    have e2 : ∀ y u, upd s'.H0 x (.ins (cl c) dx' (fs.zip us)) y = some u → s1.H0 y = some u ∨ s1.H y = none := fun y u h => by
      by_cases zx : y = x
      · rw [zx]
        exact .inr nx
      · rw [upd_ne zx] at h
        rcases st'.e2 y u h with h | h
        · exact .inl h
        · have h : upd (upd s1.H dx (.own x)) x (.ins (cl c) dx []) y = none := h
          by_cases zd : y = dx
          · rw [zd]
            exact .inr ndx
          · rw [hH y zx zd] at h
            exact .inr h
    have e0 : Ex s1.H0 (upd s'.H0 x (.ins (cl c) dx' (fs.zip us))) := fun a u h => by
      rw [upd_ne (ne_of_none h hx0)]
      exact st'.e0 a u h
    refine q (.ref x) ⟨upd s'.H0 x (.ins (cl c) dx' (fs.zip us)), s'.H, s1.ps⟩ (st1.trans ⟨e0, fun y u h _ => keep y u h, e2, List.prefix_refl _, fun _ h => .inl h, fun y _ h => ?_⟩) ⟨fun a u h => ?_, ok1.nd, ok1.len, fun i qq v f1 f2 => ?_, ok1.tb⟩ ⟨x, dx', us, rfl, upd_same, g2, g3.mono (Ex.new h0)⟩
    · obtain ⟨u, hu⟩ := Option.isSome_iff_exists.mp h
      show (s'.H y).isSome = true
      rw [keep y u hu]
      rfl
    · have h : upd s'.H0 x _ a = some u := h
      by_cases zx : a = x
      · rw [zx, upd_same] at h
        rw [zx]
        exact .inl (g1.trans h)
      · rw [upd_ne zx] at h
        exact ok'.lk a u h
    · obtain ⟨live1, live2⟩ := ok1.own (mem_ps f1)
      obtain ⟨o, ho⟩ := Option.isSome_iff_exists.mp live2
      refine (ok1.ow i qq v f1 f2).ext e0 (fun g => ?_) ((keep qq o ho).trans ho.symm)
      cases hh : upd s'.H0 x (.ins (cl c) dx' (fs.zip us)) qq with
      | none => exact hh
      | some o2 =>
        rcases e2 qq o2 hh with a | a
        · rw [g] at a
          cases a
        · rw [a] at ho
          cases ho

/-! ### targets, pairs, comprehensions as statements -/
/-- tg = e, tg a tuple of names -/
theorem ws_asg {is : List Nat} {r1 : List Sl} (h : WP cl X r w e d) (hg : WG cl X r w tg d is r1) (k : F.nx r1 w) (hs : swapsWithSole [tg] e pos.line X.env = pure false := by rfl) (hw : swappedStores [tg] e X.env = pure none := by rfl)
    (h1 : (assignEach [tg] X.env).map (·.2) = [assign tg X.env] := by rfl) : WS cl X m r w (.Assign [tg] e pos) F := fun B s σ D hm st I C =>
  ⟨_, ps_asg sE sG hs hw h1, h s σ I _ fun v s1 st1 ok1 rv => hg s1 σ v (I.step st1 ok1) rv _ fun σ1 k1 _ _ => C.nx s1 σ1 r1 w (st.trans st1) ⟨ok1, k1⟩ k⟩
/-- a, b = e1, e2 -/
theorem ws_par (i j : Nat) {n2 : Str} {px py pt : Pos} {kt k2 : _} {pt2 : Pos} (hc : X.calm = true) (hNd : X.N.Nodup) (hij : i ≠ j) (ha : WAp cl X r w [a, b] [x, y]) (k : F.nx ((r.set i (.d x)).set j (.d y)) w) (hi : X.N[i]? = some n := by rfl) (hj : X.N[j]? = some n2 := by rfl)
    (hx : X.env.scope.names.lookup n = some .local := by rfl) (hy : X.env.scope.names.lookup n2 = some .local := by rfl)
    (hw : swappedStores [.Tuple [.Name n px, .Name n2 py] kt pt] (.Tuple [a, b] k2 pt2) X.env = pure (some [n, n2]) := by rfl)
    (hs : swapsWithSole [.Tuple [.Name n px, .Name n2 py] kt pt] (.Tuple [a, b] k2 pt2) pos.line X.env = pure false := by rfl) : WS cl X m r w (.Assign [.Tuple [.Name n px, .Name n2 py] kt pt] (.Tuple [a, b] k2 pt2) pos) F := fun B s σ D hm st I C =>
  ⟨_, ps_par hc hNd hi hj hij hx hy sA hw hs, ha s σ I _ fun vs s1 st1 ok1 rs => by
    obtain ⟨u, v, rfl, h1, h2⟩ := rs2 rs
    exact ⟨u, v, rfl, C.nx s1 _ _ w (st.trans st1) ⟨ok1, ((I.sl.step st1).set i (x := .d x) ⟨u, rfl, h1⟩).set j (x := .d y) ⟨v, rfl, h2⟩⟩ k⟩⟩
theorem ip_mulI : PIp X .Mult (fun x y H Q => ∃ i j, x = .int i ∧ y = .int j ∧ CMul i j ∧ Q (.int (i * j)) H) := by
  intro pins s σ H x y v u Q I r1 r2 h
  obtain ⟨i, j, rfl, rfl, hc, q⟩ := h
  obtain ⟨t, rfl⟩ := r1
  obtain ⟨t2, rfl⟩ := r2
  exact PySem.AutoIntOps.imul_0 ⟨.int _, H, I.tok _, ⟨_, rfl⟩, q⟩ hc.ok
/-- name *= e -/
theorem ws_mulAug (i : Nat) {i1 i2 : Int} {p' : Pos} (hNd : X.N.Nodup) (hr : r[i]? = some (.d (.int i1))) (h : WP cl X r w e (.int i2)) (hc : CMul i1 i2) (k : F.nx (r.set i (.d (.int (i1 * i2)))) w) (hi : X.N[i]? = some n := by rfl) (hx : Loc X.env.scope n := by first | exact .inl rfl | exact .inr rfl)
    (hf : X.fn n = true ∨ X.env.scope.names.lookup n = some .local := by first | exact .inl rfl | exact .inr rfl) : WS cl X m r w (.AugAssign (.Name n p') .Mult e pos) F := fun B s σ D hm st I C => by
  obtain ⟨u, e1, v, e2, e3⟩ := I.sl.get hr
  subst e2
  obtain rfl : v = .int i1 := e3
  exact ⟨_, ps_aug hNd hi hx sE ip_mulI hf, .int i1, e1, h s σ I _ fun v s1 st1 ok1 rv => ⟨i1, i2, rfl, rv, hc, C.nx s1 _ _ w (st.trans st1) ⟨ok1, (I.sl.step st1).set i (x := .d (.int (i1 * i2))) ⟨_, rfl, rfl⟩⟩ k⟩⟩
theorem wp_neg {i : Int} (ha : WP cl X r w a (.int i)) : WP cl X r w (.UnaryOp .USub a pos) (.int (-i)) := fun s σ I Q q => ⟨_, pe_un un_neg sE, ha s σ I _ fun v s1 st ok rv => ⟨i, rv, q _ s1 st ok rfl⟩⟩
end

/-! ### promises of one value -/
/-- from the data ds0, where c holds, the datum v -/
abbrev PX (K : PySem.W.Frag) (cl : Nat → Addr) (ds0 : List D) (c : Prop) (v : D) : Sp := spP K cl (fun ds => ds = ds0 ∧ c) fun _ => v
section
variable {cl : Nat → Addr} {X : Cx} {r : List Sl} {w : List Ow} {e a b tg : Expr} {d x y z : D} {pos p p2 : Pos} {n : Str} {es : List Expr} {ds ys : List D} {k m c : Nat} {fs ps : List Str} {F : Ph} {pre : Prop} {CX : CXT}
theorem wp_px {k' : Nat} (F : Cal X.prog X.w X.K X.mg X.base CX k n ps (PX X.K cl ds pre d)) (hr : Room k' X.A) (hk : k ≤ k') (ha : WAp cl X r w (e :: es) ds) (hp : pre) {E : XK} (hx : Passes CX X E) (hg : Gl X n := by rfl) (hdb : (n == ("__debug__" : Str)) = false := by decide)
    (he : starEach (e :: es) X.env = (false, eval e X.env) :: starEach es X.env := by rfl) (hpl : (backTo pos (starEach es X.env)).any (·.1) = false := by rfl) : WP cl X r w (.Call (.Name n p) (e :: es) [] pos) d := wp_fn F hr hk ha ⟨rfl, hp⟩ hx hg hdb he hpl
theorem wp_mx0 {k' C : Nat} {apos : Pos} {pl : Sem Bool} (F : MCal X.prog X.w X.K X.mg X.base CX k (cl C) n ps (PX X.K cl [.obj C fs ys] pre d)) (hr : Room k' X.A) (hk : k ≤ k') (ha : WP cl X r w a (.obj C fs ys)) (nm : n ∉ fs) (hp : pre) {E : XK} (hx : Passes CX X E)
    (hc : eval (.Call (.Attribute a n apos) [] [] pos) X.env = (do
      let ov ← eval a X.env
      standAt apos.atName
      let (f, first) ← holding [ov] (getMethod ov n pl)
      callWith pos f first (backTo pos (starEach [] X.env)) (backToKw pos (keywordEach [] X.env))) := by rfl) : WP cl X r w (.Call (.Attribute a n apos) [] [] pos) d := wp_meth0 F hr hk ha nm ⟨rfl, hp⟩ hx hc
theorem wp_mx {k' C : Nat} {apos : Pos} {pl : Sem Bool} (F : MCal X.prog X.w X.K X.mg X.base CX k (cl C) n ps (PX X.K cl (.obj C fs ys :: ds) pre d)) (hr : Room k' X.A) (hk : k ≤ k') (ho : WP cl X r w a (.obj C fs ys)) (ha : WAp cl X r w (e :: es) ds) (nm : n ∉ fs) (hp : pre) {E : XK} (hx : Passes CX X E)
    (hc : eval (.Call (.Attribute a n apos) (e :: es) [] pos) X.env = (do
      let ov ← eval a X.env
      standAt apos.atName
      let (f, first) ← holding [ov] (getMethod ov n pl)
      callWith pos f first (backTo pos (starEach (e :: es) X.env)) (backToKw pos (keywordEach [] X.env))) := by rfl)
    (he : starEach (e :: es) X.env = (false, eval e X.env) :: starEach es X.env := by rfl) (hpl : (backTo pos (starEach es X.env)).any (·.1) = false := by rfl) : WP cl X r w (.Call (.Attribute a n apos) (e :: es) [] pos) d := wp_meth F hr hk ho ha nm ⟨rfl, hp⟩ hx hc he hpl
end

/-! ### comprehensions without a test, all, any -/
section
variable {cl : Nat → Addr} {X : Cx} {r : List Sl} {w : List Ow} {a b elt tg it : Expr} {pos p : Pos} {scope : Scope} {α : Type}
theorem wp_lcm {xs : List α} {enc : α → D} {ra : α → List Sl} {g : α → D} {is : List Nat} (own : List (Str × Nat)) (hc : X.calm = true) (hN : X.N.Nodup) (ok : BlkOk X.N X.env.scope scope own) (hz : xs.length ≤ 100000) (hi : WI cl X r w tg it (xs.map enc)) (his : ∀ i ∈ is, i ∈ own.map (·.2))
    (hg : ∀ x ∈ xs, InBlk X scope fun Y => WG cl Y (wipeR r (own.map (·.2))) w tg (enc x) is (ra x))
    (he : ∀ x ∈ xs, InBlk X scope fun Y => WP cl Y (ra x) w elt (g x)) (hs : ∀ x, foldedSetIterable it X.env x = pure x := by intro _; rfl) :
    WP cl X r w (.ListComp elt [⟨tg, it, [], 0⟩] scope pos) (.lst (xs.map g)) :=
  wp_is (wp_lc (f := fun _ => true) own hc hN ok hz hi his hg (fun _ _ _ _ _ _ _ => wts_nil) (fun x hx _ => he x hx) hs) (by rw [List.filter_eq_self.mpr (fun _ _ => rfl)])
theorem wp_allB {xs : List α} {f : α → Bool} (B : Bl X.mg) (hc : X.calm = true) (ha : WP cl X r w a (.lst (xs.map fun x => .bl (f x)))) (hg : Gl X "all" := by rfl) (he : starEach [a] X.env = (false, eval a X.env) :: starEach [] X.env := by rfl) (hpl : (backTo pos (starEach [] X.env)).any (·.1) = false := by rfl) : WP cl X r w (.Call (.Name "all" p) [a] [] pos) (.bl (xs.all f)) :=
  wp_is (wp_all (bs := xs.map f) B hc (wp_is ha (by rw [List.map_map]; rfl)) hg he hpl) (by rw [List.all_map]; rfl)
theorem wp_anyB {xs : List α} {f : α → Bool} (B : Bl X.mg) (hc : X.calm = true) (ha : WP cl X r w a (.lst (xs.map fun x => .bl (f x)))) (hg : Gl X "any" := by rfl) (he : starEach [a] X.env = (false, eval a X.env) :: starEach [] X.env := by rfl) (hpl : (backTo pos (starEach [] X.env)).any (·.1) = false := by rfl) : WP cl X r w (.Call (.Name "any" p) [a] [] pos) (.bl (xs.any f)) :=
  wp_is (wp_any (bs := xs.map f) B hc (wp_is ha (by rw [List.map_map]; rfl)) hg he hpl) (by rw [List.any_map]; rfl)
end

section
variable {cl : Nat → Addr} {X : Cx} {r : List Sl} {w : List Ow} {a b elt tg it : Expr} {pos p : Pos} {scope : Scope} {α : Type} {n : Str} {m : Nat} {F : Ph}
/-- name = [.. for ..] -/
theorem ws_setLcm (i : Nat) {p' pos2 : Pos} {xs : List α} {enc : α → D} {ra : α → List Sl} {g : α → D} {is : List Nat} (own : List (Str × Nat)) (hc : X.calm = true) (hN : X.N.Nodup) (ok : BlkOk X.N X.env.scope scope own) (hz : xs.length ≤ 100000) (hi : WI cl X r w tg it (xs.map enc)) (his : ∀ i ∈ is, i ∈ own.map (·.2))
    (hg : ∀ x ∈ xs, InBlk X scope fun Y => WG cl Y (wipeR r (own.map (·.2))) w tg (enc x) is (ra x))
    (he : ∀ x ∈ xs, InBlk X scope fun Y => WP cl Y (ra x) w elt (g x))
    (k : F.nx (r.set i (.d (.lst (xs.map g)))) w) (hy : X.N[i]? = some n := by rfl) (hyl : X.env.scope.names.lookup n = some .local := by rfl) (hsw : swapsWith (.ListComp elt [⟨tg, it, [], 0⟩] scope pos2) (some (.Name n p')) pos.line X.env = pure true := by exact sw_true rfl rfl rfl rfl) (hs : ∀ x, foldedSetIterable it X.env x = pure x := by intro _; rfl) : WS cl X m r w (.Assign [.Name n p'] (.ListComp elt [⟨tg, it, [], 0⟩] scope pos2) pos) F :=
  ws_setLc (f := fun _ => true) i own hc hN hy hyl hsw ok hz hi his hg (fun _ _ _ _ _ _ _ => wts_nil) (fun x hx _ => he x hx) (by rw [List.filter_eq_self.mpr (fun _ _ => rfl)]; exact k) hs
/-- name = [.. for .. if ..] -/
theorem ws_setLcf (i : Nat) {p' pos2 : Pos} {xs : List α} {enc : α → D} {ra : α → List Sl} {f : α → Bool} {g : α → D} {is : List Nat} {c : Expr} (own : List (Str × Nat)) (hc : X.calm = true) (hN : X.N.Nodup) (ok : BlkOk X.N X.env.scope scope own) (hz : xs.length ≤ 100000) (hi : WI cl X r w tg it (xs.map enc)) (his : ∀ i ∈ is, i ∈ own.map (·.2))
    (hg : ∀ x ∈ xs, InBlk X scope fun Y => WG cl Y (wipeR r (own.map (·.2))) w tg (enc x) is (ra x))
    (ht : ∀ x ∈ xs, InBlk X scope fun Y => WT cl Y (ra x) w c (f x))
    (he : ∀ x ∈ xs, f x = true → InBlk X scope fun Y => WP cl Y (ra x) w elt (g x))
    (k : F.nx (r.set i (.d (.lst ((xs.filter f).map g)))) w) (hy : X.N[i]? = some n := by rfl) (hyl : X.env.scope.names.lookup n = some .local := by rfl) (hsw : swapsWith (.ListComp elt [⟨tg, it, [c], 0⟩] scope pos2) (some (.Name n p')) pos.line X.env = pure true := by exact sw_true rfl rfl rfl rfl) (hs : ∀ x, foldedSetIterable it X.env x = pure x := by intro _; rfl) : WS cl X m r w (.Assign [.Name n p'] (.ListComp elt [⟨tg, it, [c], 0⟩] scope pos2) pos) F :=
  ws_setLc i own hc hN hy hyl hsw ok hz hi his hg (fun x hx s H C cl fp => wts_one (ht x hx s H C cl fp)) he k hs
end
theorem no_o {r : List Sl} {nn : Nat} (h : ∀ x ∈ r, x ≠ Sl.o nn) : ∀ j : Nat, r[j]? ≠ some (Sl.o nn) := fun j e => h _ (List.mem_of_getElem? e) rfl

section
variable {cl : Nat → Addr} {X : Cx} {r : List Sl} {w : List Ow} {a b c : Expr} {pos : Pos}
theorem wt_chain {i j k : Int} (ha : WP cl X r w a (.int i)) (hb : WP cl X r w b (.int j)) (hc : WP cl X r w c (.int k)) (hm : lastMarks [.LtE, .LtE] [b, c] = false := by with_unfolding_all rfl) : WT cl X r w (.Compare a [.LtE, .LtE] [b, c] pos) (decide (i ≤ j) && decide (j ≤ k)) := fun s σ I Q q =>
  ⟨_, pt_chain op_le op_le sE sE sE hm, ha s σ I _ fun u s1 st1 ok1 r1 => hb s1 σ (I.step st1 ok1) _ fun v s2 st2 ok2 r2 => ⟨i, j, r1, r2, _, rfl, by
    by_cases h : i ≤ j
    · rw [if_pos (decide_eq_true h)]
      refine hc s2 σ ((I.step st1 ok1).step st2 ok2) _ fun t s3 st3 ok3 r3 => ⟨j, k, r2, r3, _, rfl, ?_⟩
      have := q s3 ((st1.trans st2).trans st3) ok3
      rw [decide_eq_true h, Bool.true_and] at this
      exact this
    · rw [if_neg (by rw [decide_eq_false h]; decide)]
      have := q s2 (st1.trans st2) ok2
      rw [decide_eq_false h, Bool.false_and] at this
      exact ⟨_, rfl, this⟩⟩⟩
end
theorem cut_to {β : Type} {enc : β → D} (l : List β) (k : Nat) : cutD (l.map enc) none (some (k : Int)) = (l.take k).map enc := by
  unfold cutD
  rw [HT.sIx_nat]
  show ((l.map enc).drop 0).take (min k _ - 0) = _
  rw [List.drop_zero, Nat.sub_zero, ← List.map_take]
  congr 1
  rw [List.length_map, List.take_eq_take_iff]
  omega
theorem cut_from {β : Type} {enc : β → D} (l : List β) (k : Nat) : cutD (l.map enc) (some (k : Int)) none = (l.drop k).map enc := by
  unfold cutD
  rw [HT.sIx_nat]
  show ((l.map enc).drop (min k _)).take ((l.map enc).length - min k _) = _
  rw [List.length_map, ← List.map_drop, ← List.map_take]
  congr 1
  rw [List.take_of_length_le (by rw [List.length_drop]; exact Nat.le_refl _)]
  by_cases h : k ≤ l.length
  · rw [Nat.min_eq_left h]
  · rw [Nat.min_eq_right (by omega), List.drop_length, List.drop_of_length_le (by omega)]
end FV
set_option Elab.async false
set_option linter.all false
set_option maxRecDepth 100000
set_option maxHeartbeats 2000000
/-! The data layer, part M: a name set to a dict comprehension. -/
namespace FV
open PySem PySem.Spec PyProof.Rows L2
/-- for all contexts of a block -/
def AllBlk (X : Cx) (scope : Scope) (G : Cx → Prop) : Prop := ∀ (s : Shared) (H : Hp) (C : Addr) (cl : List (Str × Addr)) (fp : List Addr), G (X.blk s H scope (compEnvC scope cl C X.env) fp)
section
variable {X : Cx} {kx vx tg it : Expr} {ifs : List Expr} {scope : Scope} {own : List (Str × Nat)} {wi : TI} {g : TG} {tt : TT} {tk tv : TE}
theorem ps_dcSet {i : Nat} {n : Str} {p1 p2 p3 : Pos} (hcalm : X.calm = true) (nodup : X.N.Nodup) (slot : X.N[i]? = some n) (isloc : X.env.scope.names.lookup n = some .local) (sw : swapsWith (.DictComp kx vx [⟨tg, it, ifs, 0⟩] scope p2) (some (.Name n p1)) p3.line X.env = pure true)
    (bok : BlkOk X.N X.env.scope scope own) (hit : PI X tg it wi) (htg : AllBlk X scope fun Y => PG Y tg g) (hif : AllBlk X scope fun Y => PTs Y ifs tt) (hkx : AllBlk X scope fun Y => PE Y kx tk) (hvx : AllBlk X scope fun Y => PE Y vx tv) (hfold : ∀ x, foldedSetIterable it X.env x = pure x) :
    PS X (.Assign [.Name n p1] (.DictComp kx vx [⟨tg, it, ifs, 0⟩] scope p2) p3) (tAsg (tDc wi g tt tk tv (own.map (·.2))) (gName i)) := ⟨fun pins s σ H D I h => by
  have h' : tDc wi g tt tk tv (own.map (·.2)) σ H (fun x H1 => D.nx (σ.set i (some x)) H1) := h
  rw [exec_Assign_Name_used _ _ _ _ sw]
  refine wpAny_bind (wpAny_standAt (wpAny_bind ?_))
  show wpAny _ X.A (comprehension (.DictComp kx vx [⟨tg, it, ifs, 0⟩] scope p2) scope X.env (firstIterPos [⟨tg, it, ifs, 0⟩] p2) newDict false (eval it X.env) (some (assign (.Name n p1) X.env)) >>= fun _ => pure ()) _ _ s
  have core := dc_core (Qf := fun _ z => SP X pins D .next z) (use := some (assign (.Name n p1) X.env)) (pos := p2) (pos' := firstIterPos [⟨tg, it, ifs, 0⟩] p2) hcalm nodup I hit bok htg hif hkx hvx hfold h' fun A C z m Hz Iz qz nz fz => by
    show wpAny _ _ (assign (.Name n p1) X.env (.ref A)) _ _ _
    obtain ⟨g0, g1, g2, g3, g4, g5⟩ := fz
    refine wpAny_assign_Name (store_ok2 (v := V.ref A) Iz nodup slot (.inl isloc) rfl (fun z2 I2 ⟨a, hsb, ha⟩ => ?_) (.inr isloc))
    have ne : C ≠ a := by
      rcases ha with e | e
      · rw [e]
        exact g1
      · exact fun e2 => g4 n a e e2.symm
    exact ⟨m, nz.sameBut hsb ne, fun h3 sb3 => ⟨_, Hz, I2.turned (t' := z2.toks) (fun b o hb e => (sb3.2 b hb).trans e) g0 g1 g3 g4 g5, qz⟩⟩
  exact wpAny_bind (thn core fun _ z hz => wpAny_pure (wpAny_pure hz))⟩
theorem sw_dict {gs : List Comprehension} {p1 p2 : Pos} {n : Str} {l : Nat} {env : PySem.Env} (hk : env.scope.kind = .function) (hy : env.scope.names.lookup n = some .local) (hl : (p1.line == p2.line) = true)
    (ha : (scope.names.any fun (m, k) => m == n && (k == .local || k == .cell)) = false) : swapsWith (.DictComp kx vx gs scope p2) (some (.Name n p1)) l env = pure true := by
  have e1 : env.kindOf n = some .local := hy
  have e2 : env.blockKind = .function := by
    unfold Env.blockKind
    rw [hk]
    rfl
  unfold swapsWith
  simp only [e2, e1, ha, Expr.pos, hl]
  rfl
end
section
variable {cl : Nat → Addr} {X : Cx} {r : List Sl} {w : List Ow} {tg it kx vx : Expr} {ds : List D} {pos p p2 : Pos} {n : Str} {m : Nat} {ifs : List Expr} {scope : Scope} {α : Type} {F : Ph}
/-- name = {.. for .. in d if ..}, d a shared dict -/
theorem ws_setDcK (i : Nat) {xs : List α} {enc : α → D} {ra : α → List Sl} {f : α → Bool} {key : α → Int} {val : α → D} {is : List Nat} {ks : List Int} (own : List (Str × Nat)) (hc : X.calm = true) (hN : X.N.Nodup) (ok : BlkOk X.N X.env.scope scope own) (hz : xs.length ≤ 100000) (hi : DAt cl X r w it ks ds) (hkk : ks.map D.int = xs.map enc) (his : ∀ i ∈ is, i ∈ own.map (·.2))
    (hg : ∀ x ∈ xs, InBlk X scope fun Y => WG cl Y (wipeR r (own.map (·.2))) w tg (enc x) is (ra x))
    (ht : ∀ x ∈ xs, InBlk X scope fun Y => WTs cl Y (ra x) w ifs (f x))
    (hk : ∀ x ∈ xs, f x = true → InBlk X scope fun Y => WP cl Y (ra x) w kx (.int (key x)))
    (hv : ∀ x ∈ xs, f x = true → InBlk X scope fun Y => WP cl Y (ra x) w vx (val x))
    (k : F.nx (r.set i (.d (dD (dacc key val (xs.filter f))))) w) (hy : X.N[i]? = some n := by rfl) (hyl : X.env.scope.names.lookup n = some .local := by rfl) (hsw : swapsWith (.DictComp kx vx [⟨tg, it, ifs, 0⟩] scope p2) (some (.Name n p)) pos.line X.env = pure true := by exact sw_dict rfl rfl rfl rfl) (hs : ∀ x, foldedSetIterable it X.env x = pure x := by intro _; rfl) :
    WS cl X m r w (.Assign [.Name n p] (.DictComp kx vx [⟨tg, it, ifs, 0⟩] scope p2) pos) F := fun B s σ D hm st I C => by
  obtain ⟨dd, vs, h1, h2, h3, h4⟩ := hi s σ I
  have run : ∀ H1 od, H1 dd = some (.frz od (.dK (kvs ks vs))) → Env X.K cl ⟨s.H0, H1, s.ps⟩ σ r w → ∀ Q : VK, (∀ v s', Step ⟨s.H0, H1, s.ps⟩ s' → Ok X.K cl s' w → R cl s'.H0 (dD (dacc key val (xs.filter f))) v → Q v s'.H) → tDc (tIr X tg it) (uG X scope tg) (uTs X scope ifs) (uE X scope kx) (uE X scope vx) (own.map (·.2)) σ H1 Q := fun H1 od hf I1 Q k1 =>
    dc_pureS (it := it) (tg := tg) ⟨s.H0, H1, s.ps⟩ σ I1 hz (fun Q2 k2 => ⟨_, pi_keys sE, h4 H1 I1 _ ⟨dd, od, rfl, .inl ⟨_, hf, k2 _ ⟨s.H0, H1, s.ps⟩ (.refl _) I1.ok (by rw [← hkk]; exact itd_keys hf (I.ok.notow h1) (by rw [h3.length]; exact h2))⟩⟩⟩) his hg ht hk hv Q k1
  have ps := ps_dcSet (p1 := p) (p2 := p2) (p3 := pos) hc hN hy hyl hsw ok (sI (X := X) (tg := tg) (it := it)) suG suTs suE suE hs
  rcases I.ok.lk dd _ h1 with hH | ⟨_, ob, hH⟩
  · refine ⟨_, ps_lock ps, dd, .dK _, hH, trivial, fun od => ?_⟩
    refine run _ od upd_same ⟨ok_lock I.ok h1, I.sl.heap⟩ _ fun v s' st' ok' rv => ?_
    obtain ⟨g1, g2, g3⟩ := ok_unlock I.ok h1 hH st' ok'
    exact ⟨g1, C.nx ⟨s'.H0, upd s'.H dd _, s'.ps⟩ _ _ w (st.trans g2) ⟨g3, (I.sl.step g2).set i (x := .d _) ⟨v, rfl, rv⟩⟩ k⟩
  · refine ⟨_, ps, ?_⟩
    exact run s.H ob hH I _ fun v s' st' ok' rv => C.nx s' _ _ w (st.trans st') ⟨ok', (I.sl.step st').set i (x := .d _) ⟨v, rfl, rv⟩⟩ k
end
end FV
set_option Elab.async false
set_option linter.all false
set_option maxRecDepth 100000
set_option maxHeartbeats 2000000
/-! The data layer, part N: setdefault, dict(..) owned, last items, least ones. -/
namespace FV
open PySem PySem.Spec PyProof.Rows L2
theorem at_last {α : Type} (l : List α) (x : α) : L2.atI (l ++ [x]) (-((1 : Nat) : Int)) = some x := by
  unfold L2.atI ixN
  rw [if_neg (by omega), if_pos (by rw [List.length_append, List.length_singleton]; omega)]
  show (l ++ [x])[_]? = _
  have : (-((1 : Nat) : Int) + ((l ++ [x]).length : Int)).toNat = l.length := by
    rw [List.length_append, List.length_singleton]
    omega
  rw [this, List.getElem?_append_right (Nat.le_refl _), Nat.sub_self]
  rfl
theorem foldl_min_le : ∀ (l : List Nat) (a : Nat), l.foldl min a ≤ a ∧ ∀ x ∈ l, l.foldl min a ≤ x
  | [], a => ⟨Nat.le_refl _, fun x h => by cases h⟩
  | y :: l, a => by
    obtain ⟨h1, h2⟩ := foldl_min_le l (min a y)
    rw [List.foldl_cons]
    refine ⟨by omega, fun x hx => ?_⟩
    rcases List.mem_cons.mp hx with rfl | hx
    · omega
    · exact h2 x hx
theorem foldl_min_mem : ∀ (l : List Nat) (a : Nat), l.foldl min a = a ∨ l.foldl min a ∈ l
  | [], a => .inl rfl
  | y :: l, a => by
    rw [List.foldl_cons]
    rcases foldl_min_mem l (min a y) with h | h
    · by_cases q : a ≤ y
      · rw [Nat.min_eq_left q] at h ⊢
        exact .inl h
      · rw [Nat.min_eq_right (by omega)] at h ⊢
        exact .inr (by rw [h]; exact List.mem_cons_self)
    · exact .inr (List.mem_cons_of_mem _ h)
theorem minL_le {l : List Nat} {x : Nat} (h : x ∈ l) : minL l ≤ x := by
  cases l with
  | nil => cases h
  | cons a l =>
    obtain ⟨h1, h2⟩ := foldl_min_le l a
    rcases List.mem_cons.mp h with rfl | h
    · exact h1
    · exact h2 x h
theorem minL_mem {l : List Nat} (h : l ≠ []) : minL l ∈ l := by
  cases l with
  | nil => exact absurd rfl h
  | cons a l =>
    rcases foldl_min_mem l a with q | q
    · show l.foldl min a ∈ _
      rw [q]
      exact List.mem_cons_self
    · exact List.mem_cons_of_mem _ q
section
variable {cl : Nat → Addr} {X : Cx} {r : List Sl} {w : List Ow} {a b e f g c : Expr} {d : D} {ds : List D} {pos p : Pos} {n : Str} {m : Nat} {F : Ph}
theorem wp_minN (B : Bl X.mg) {l : List Nat} (hc : X.calm = true) (ha : WP cl X r w a (lNs l)) (h : l ≠ []) (hg : Gl X "min" := by rfl) (he : starEach [a] X.env = (false, eval a X.env) :: starEach [] X.env := by rfl) (hpl : (backTo pos (starEach [] X.env)).any (·.1) = false := by rfl) : WP cl X r w (.Call (.Name "min" p) [a] [] pos) (eN (minL l)) :=
  wp_minL B hc (ns := l.map Int.ofNat) (wp_is ha (congrArg D.lst (ints_of l))) (List.mem_map.mpr ⟨_, minL_mem h, rfl⟩) (fun y hy => by
    obtain ⟨x, hx, rfl⟩ := List.mem_map.mp hy
    have := minL_le hx
    show ((minL l : Nat) : Int) ≤ (x : Int)
    omega) hg he hpl
/-- name = dict(e), to be changed -/
theorem ws_dictO (i : Nat) {p' : Pos} {ks : List Int} (B : Bl X.mg) (hN : X.N.Nodup) (ha : WP cl X r w a (.dic ks ds)) (k : F.nx (r.set i (.o w.length)) (w ++ [.dic ks ds])) (hi : X.N[i]? = some n := by rfl) (hx : Loc X.env.scope n := by first | exact .inl rfl | exact .inr rfl) {pc : Pos} (hs : swapsWith (.Call (.Name "dict" p) [a] [] pc) (some (.Name n p')) pos.line X.env = pure false := by rfl)
    (hf : X.fn n = true ∨ X.env.scope.names.lookup n = some .local := by first | exact .inl rfl | exact .inr rfl) (hg : Gl X "dict" := by rfl) (he : starEach [a] X.env = (false, eval a X.env) :: starEach [] X.env := by rfl) (hpl : (backTo pc (starEach [] X.env)).any (·.1) = false := by rfl) : WS cl X m r w (.Assign [.Name n p'] (.Call (.Name "dict" p) [a] [] pc) pos) F := fun B0 s σ D hm st I C =>
  ⟨_, ps_set hN hi hx (pe_callTy call_dictD hg B.dict (by decide +kernel) (pa_cons sE pa_nil he) (by decide) (by decide) he hpl) hs hf, ha s σ I _ fun v s1 st1 ok1 rv => by
    obtain ⟨dd, us, rfl, h1, h4, h5, h2⟩ := rv
    refine ⟨dd, _, rfl, ok1.lk.rd h1, fun q nq => ?_⟩
    refine C.nx ⟨s1.H0, upd s1.H q (.dK (kvs ks us)), s1.ps ++ [some q]⟩ _ _ _ ((st.trans st1).own_new nq) ⟨ok1.own_new (u := .dic ks ds) nq ⟨ok1.lk.nil nq, us, upd_same, h4, h5, h2⟩, ?_⟩ k
    refine (Rvs.grow (σ := σ) (I.sl.step st1) (List.prefix_append _ _)).set i ⟨q, ?_, rfl⟩
    show (s1.ps ++ [some q])[w.length]? = _
    rw [← ok1.len, List.getElem?_append_right (Nat.le_refl _), Nat.sub_self]
    rfl⟩
/-- if c or d.setdefault(k, v) != v -/
theorem ws_ifSd (i : Nat) {nn : Nat} {l : List (Nat × Nat)} {j x : Nat} {t : Bool} {body orelse : List Stmt} {apos cpos pos2 pos3 : Pos} (hr : r[i]? = some (.o nn)) (hw : w[nn]? = some (.dic (l.map fun q => (q.1 : Int)) (l.map fun q => eN q.2)))
    (hc : WT cl X r w c t) (he : WP cl X r w e (eN j)) (hf : WP cl X r w f (eN x)) (hg : WP cl X r w g (eN x)) (hg2 : ∀ u : Ow, WP cl X r (w.set nn u) g (eN x)) (hl : l.length < 100000)
    (k1 : t = true → WSs cl X m r w body F) (k2 : t = false → ∀ z, l.lookup j = some z → z ≠ x → WSs cl X m r w body F) (k3 : t = false → l.lookup j = some x → WSs cl X m r w orelse F)
    (k4 : t = false → l.lookup j = none → WSs cl X m r (w.set nn (.dic ((l ++ [(j, x)]).map fun q => (q.1 : Int)) ((l ++ [(j, x)]).map fun q => eN q.2))) orelse F)
    (hN : X.N[i]? = some n := by rfl) (hvis : Vis X.env.scope n := by first | exact Or.inl rfl | exact Or.inr (Or.inl rfl))
    (hd : (n == ("__debug__" : Str)) = false := by decide) (hcd : (n == ("__classdict__" : Str)) = false := by decide)
    (b1 : attributeBase (.Name n p) "setdefault" X.env (eval (.Name n p) X.env) = eval (.Name n p) X.env := by rfl)
    (b2 : ((backTo cpos (starEach [e, f] X.env)).all (fun x => !x.1) && (backToKw cpos (keywordEach [] X.env)).all (fun x => x.1.isSome) && decide (([e, f] : List Expr).length + ([] : List Keyword).length + (if ([] : List Keyword).isEmpty then 0 else 1) < 30)) = true := by rfl)
    (b3 : (apos.endLine == cpos.line) = true := by rfl) (b4 : backTo cpos (starEach [e, f] X.env) = [(false, eval e X.env), (false, eval f X.env)] := by rfl) :
    WS cl X m r w (.If (.BoolOp .Or [c, .Compare (.Call (.Attribute (.Name n p) "setdefault" apos) [e, f] [] cpos) [.NotEq] [g] pos2] pos3) body orelse pos) F := fun B s σ D hm st I C => by
  refine ⟨_, ps_if (pw_or sT (pw_or1 (pt_cmpR op_ne (pe_dsetd (pe_var hN hvis hd hcd) sE sE ⟨b1, b2, b3, b4⟩) sE (nomark _)))).pt sSs sSs, hc s σ I _ fun s1 st1 ok1 => ?_⟩
  have I1 := I.step st1 ok1
  have stB := st.trans st1
  cases t with
  | true => exact k1 rfl B s1 σ D hm stB I1 C
  | false =>
    obtain ⟨v, e1, p0, e2, e3⟩ := I1.sl.get hr
    subst e3
    have own1 := ok1.own_at e2 hw
    obtain ⟨h0, vs, g1, g2, g3, g4⟩ := own1
    refine ⟨_, e1, p0, rfl, .inl ⟨_, .inl g1⟩, he s1 σ I1 _ fun kv s2 st2 ok2 rk => hf s2 σ (I1.step st2 ok2) _ fun xv s3 st3 ok3 rx => ?_⟩
    obtain rfl : kv = .int (j : Int) := rk
    obtain rfl : xv = .int (x : Int) := rx
    have I3 := (I1.step st2 ok2).step st3 ok3
    have st13 := st2.trans st3
    have hps : s3.ps = s1.ps := ps_same st13 ok1 ok3 rfl
    have e4 : s3.ps[nn]? = some (some p0) := by rw [hps]; exact e2
    obtain ⟨h0', vs', f1, f2, f3, f4⟩ := ok3.own_at e4 hw
    have hlen : (kvs (l.map fun q => (q.1 : Int)) vs').length < sizeLine := by
      have := f4.length
      have : (kvs (l.map fun q => (q.1 : Int)) vs').length = l.length := by
        simp [kvs] at this ⊢
        omega
      rw [this]
      exact Nat.lt_trans hl (by decide)
    have look := dlook_val (i := (j : Int)) f2 f4
    rw [dlook_eD] at look
    refine ⟨kvs (l.map fun q => (q.1 : Int)) vs', Sum.inl (j : Int), f1, rfl, hlen, fun v2 hv2 => ?_, fun hv2 => ?_⟩
    · have hv3 : valV (kvs (l.map fun q => (q.1 : Int)) vs') (Sum.inl (j : Int)) = some v2 := hv2
      rw [hv3] at look
      cases hlk : l.lookup j with
      | none =>
        rw [hlk] at look
        cases look
      | some z =>
        rw [hlk] at look
        obtain ⟨u2, q1, q2⟩ := look
        cases q1
        obtain rfl : v2 = .int (z : Int) := q2
        refine hg s3 σ I3 _ fun y s4 st4 ok4 ry => ?_
        obtain rfl : y = .int (x : Int) := ry
        have I4 := I3.step st4 ok4
        have stz := (stB.trans st13).trans st4
        refine ⟨rfl, _, rfl, ?_⟩
        by_cases hzx : z = x
        · subst hzx
          have en : (!decide (V.int (z : Int) = V.int (z : Int))) = false := by simp
          rw [en]
          show (if false = true then tSs X body D σ s4.H else tSs X orelse D σ s4.H)
          rw [if_neg Bool.false_ne_true]
          exact k3 rfl hlk B s4 σ D hm stz I4 C
        · have en : (!decide (V.int (z : Int) = V.int (x : Int))) = true := by simp; omega
          rw [en]
          show (if true = true then tSs X body D σ s4.H else tSs X orelse D σ s4.H)
          rw [if_pos rfl]
          exact k2 rfl z hlk hzx B s4 σ D hm stz I4 C
    · have hv3 : valV (kvs (l.map fun q => (q.1 : Int)) vs') (Sum.inl (j : Int)) = none := hv2
      cases hlk : l.lookup j with
      | some z =>
        rw [hlk] at look
        obtain ⟨u2, q1, q2⟩ := look
        rw [hv3] at q1
        cases q1
      | none =>
        have nk : (j : Int) ∉ l.map fun q => (q.1 : Int) := fun hm2 => by
          obtain ⟨q, hq, hq2⟩ := List.mem_map.mp hm2
          have : (l.lookup j).isSome = true := by
            have hqj : q.1 = j := by omega
            clear hlk hv2 look hv3 f1 f2 f3 f4 hlen g1 g2 g3 g4 hw k1 k2 k3 k4 hl hm2
            induction l with
            | nil => cases hq
            | cons y l ih =>
              obtain ⟨y1, y2⟩ := y
              rw [List.lookup_cons]
              cases hb : (j == y1) with
              | true => rfl
              | false =>
                rcases List.mem_cons.mp hq with h | h
                · rw [h] at hqj
                  have hqj : y1 = j := hqj
                  rw [hqj] at hb
                  simp at hb
                · exact ih h
          rw [hlk] at this
          cases this
        have eA : (l.map fun q => ((q.1 : Int), eN q.2)).map (·.1) = l.map fun q => (q.1 : Int) := by rw [List.map_map]; rfl
        have eB : (l.map fun q => ((q.1 : Int), eN q.2)).map (·.2) = l.map fun q => eN q.2 := by rw [List.map_map]; rfl
        obtain ⟨us, q1, q2⟩ := putK_kvs (cl := cl) (H := s3.H0) (x := eN x) (k := (j : Int)) (v := .int (x : Int)) rfl (l := l.map fun q => ((q.1 : Int), eN q.2)) (vs := vs') (by rw [eA]; exact f3) (by rw [eB]; exact f4)
        rw [eA] at q1
        have eN2 := aput_new (k := (j : Int)) (x := eN x) (l := l.map fun q => ((q.1 : Int), eN q.2)) (by rw [eA]; exact nk)
        rw [eN2] at q1 q2
        have eK : ((l.map fun q => ((q.1 : Int), eN q.2)) ++ [((j : Int), eN x)]).map (·.1) = (l ++ [(j, x)]).map fun q => (q.1 : Int) := by simp
        have eV : ((l.map fun q => ((q.1 : Int), eN q.2)) ++ [((j : Int), eN x)]).map (·.2) = (l ++ [(j, x)]).map fun q => eN q.2 := by simp
        rw [eK] at q1
        rw [eV] at q2
        have ndK : ((l ++ [(j, x)]).map fun q => (q.1 : Int)).Nodup := by
          rw [← eK, ← eN2]
          exact aput_nodup (by rw [eA]; exact f3)
        rw [q1]
        have stP : Step B ⟨s3.H0, upd s3.H p0 (.dK (kvs ((l ++ [(j, x)]).map fun q => (q.1 : Int)) us)), s3.ps⟩ := (stB.trans st13).own_set ((stB.trans st13).e4 p0 (mem_ps e4))
        have IP : Env X.K cl ⟨s3.H0, upd s3.H p0 (.dK (kvs ((l ++ [(j, x)]).map fun q => (q.1 : Int)) us)), s3.ps⟩ σ r (w.set nn (.dic ((l ++ [(j, x)]).map fun q => (q.1 : Int)) ((l ++ [(j, x)]).map fun q => eN q.2))) :=
          ⟨ok3.own_set (u := .dic _ _) e4 ⟨h0', us, upd_same, by rw [List.length_map, List.length_map], ndK, q2⟩, I3.sl.heap⟩
        refine hg2 _ _ σ IP _ fun y s4 st4 ok4 ry => ?_
        obtain rfl : y = .int (x : Int) := ry
        refine ⟨rfl, _, rfl, ?_⟩
        have en : (!decide (V.int (x : Int) = V.int (x : Int))) = false := by simp
        rw [en]
        show (if false = true then tSs X body D σ s4.H else tSs X orelse D σ s4.H)
        rw [if_neg Bool.false_ne_true]
        exact k4 rfl hlk B s4 σ D hm (stP.trans st4) (IP.step st4 ok4) C
end
end FV
set_option Elab.async false
set_option linter.all false
set_option maxRecDepth 100000
set_option maxHeartbeats 2000000
/-! The data layer, part O: comprehensions with two fors. -/
namespace FV
open PySem PySem.Spec PyProof.Rows L2
theorem Hid.toOwn {K : PySem.W.Frag} {cl : Nat → Addr} {s0 s : Sta} {w0 w : List Ow} {A : Addr} {vs : List V} {acc : List D} (h : Hid K cl s0 w0 s w A (.lst vs)) (hr : Rs cl s.H0 acc vs) : Ok K cl ⟨s.H0, s.H, s.ps ++ [some A]⟩ (w ++ [.lst acc]) := by
  refine ⟨h.ok.lk, fun i j q e1 e2 => ?_, ?_, fun n q v e1 e2 => ?_, tb_app h.ok.tb h.ok.len fun p q e => by cases e⟩
  · have f1 : (s.ps ++ [some A])[i]? = some (some q) := e1
    have f2 : (s.ps ++ [some A])[j]? = some (some q) := e2
    clear e1 e2
    rw [List.getElem?_append] at f1 f2
    have nq : ∀ {i : Nat}, s.ps[i]? = some (some A) → False := fun z => h.ps (mem_ps z)
    have one : ∀ {i : Nat} {q : Addr}, ([some A] : List (Option Addr))[i]? = some (some q) → i = 0 ∧ q = A := fun {i q} e => by
      have h1 := (List.getElem?_eq_some_iff.mp e).1
      simp only [List.length_singleton] at h1
      have : i = 0 := by omega
      subst this
      simp only [List.getElem?_cons_zero, Option.some.injEq] at e
      exact ⟨rfl, e.symm⟩
    by_cases a : i < s.ps.length <;> by_cases b : j < s.ps.length
    · rw [if_pos a] at f1
      rw [if_pos b] at f2
      exact h.ok.nd i j q f1 f2
    · rw [if_pos a] at f1
      rw [if_neg b] at f2
      rw [(one f2).2] at f1
      exact (nq f1).elim
    · rw [if_neg a] at f1
      rw [if_pos b] at f2
      rw [(one f1).2] at f2
      exact (nq f2).elim
    · rw [if_neg a] at f1
      rw [if_neg b] at f2
      have := (one f1).1
      have := (one f2).1
      omega
  · show (s.ps ++ [some A]).length = _
    rw [List.length_append, List.length_append, h.ok.len]
    rfl
  · have e1 : (s.ps ++ [some A])[n]? = some (some q) := e1
    rw [List.getElem?_append] at e1 e2
    rw [h.ok.len] at e1
    by_cases a : n < w.length
    · rw [if_pos a] at e1 e2
      exact h.ok.ow n q v e1 e2
    · rw [if_neg a] at e1 e2
      have h1 := (List.getElem?_eq_some_iff.mp e1).1
      simp only [List.length_singleton] at h1
      have h0 : n - w.length = 0 := by omega
      rw [h0] at e1 e2
      simp only [List.getElem?_cons_zero, Option.some.injEq] at e1 e2
      subst e1 e2
      exact ⟨h.h0, vs, h.at_, hr⟩
theorem Hid.ofOwn {K : PySem.W.Frag} {cl : Nat → Addr} {s0 s s' : Sta} {w0 w : List Ow} {A : Addr} {o : HO} {acc : List D} (h : Hid K cl s0 w0 s w A o) (st : Step ⟨s.H0, s.H, s.ps ++ [some A]⟩ s') (ok : Ok K cl s' (w ++ [.lst acc])) : ∃ vs, Hid K cl s0 w0 ⟨s'.H0, s'.H, s.ps⟩ w A (.lst vs) ∧ Rs cl s'.H0 acc vs := by
  have hps : s'.ps = s.ps ++ [some A] := by
    obtain ⟨t, ht⟩ := st.e3
    have h1 := ok.len
    have h2 := h.ok.len
    have ht : (s.ps ++ [some A]) ++ t = s'.ps := ht
    rw [← ht, List.length_append, List.length_append, List.length_append, List.length_singleton, List.length_singleton, h2] at h1
    have : t = [] := List.length_eq_zero_iff.mp (by omega)
    rw [← ht, this, List.append_nil]
  have hl := h.ok.len
  obtain ⟨h0, vs, g1, g2⟩ := ok.ow w.length A (.lst acc) (by rw [hps, ← hl, List.getElem?_append_right (Nat.le_refl _), Nat.sub_self]; rfl) (by rw [List.getElem?_append_right (Nat.le_refl _), Nat.sub_self]; rfl)
  refine ⟨vs, ⟨⟨h.st.e0.trans st.e0, fun x u e n => ?_, fun x u e => ?_, h.st.e3, h.st.e4, fun p hp e => ?_⟩, ⟨ok.lk, h.ok.nd, h.ok.len, fun n q v e1 e2 => ?_, h.ok.tb⟩, h.new, g1, h0, h.ps⟩, g2⟩
  · have ne : x ≠ A := fun z => by
      rw [z, h.new] at e
      cases e
    have e' := h.st.e1 x u e n
    refine st.e1 x u e' ?_
    show some x ∉ s.ps ++ [some A]
    rw [List.mem_append]
    rintro (q | q)
    · rcases h.st.e4 x q with z | z
      · exact n z
      · rw [e] at z
        cases z
    · exact ne (by simpa using q)
  · rcases st.e2 x u e with z | z
    · exact h.st.e2 x u z
    · exact .inr (h.st.back z)
  · exact st.some_ (x := p) (h.st.e5 p hp e)
  · have e1 : s.ps[n]? = some (some q) := e1
    have hn : n < w.length := by
      rw [← hl]
      exact ps_get e1
    exact ok.ow n q v (by rw [hps, List.getElem?_append_left (ps_get e1)]; exact e1) (by rw [List.getElem?_append_left hn]; exact e2)
section
variable {cl : Nat → Addr} {X : Cx} {r : List Sl} {w : List Ow} {elt tg it tg1 it1 : Expr} {ifs1 : List Expr} {scope : Scope} {own : List (Str × Nat)} {vs1 : List Nat} {pos : Pos} {α β : Type}
theorem lc2_pure {xs : List α} {enc : α → D} {ys : α → List β} {enc1 : β → D} {ra : α → List Sl} {rb : α → β → List Sl} {f : α → β → Bool} {g : α → β → D} {is is1 : List Nat} (hz : xs.length ≤ 300) (hz1 : ∀ x ∈ xs, (ys x).length ≤ 300)
    (hi : WI cl X r w tg it (xs.map enc)) (his : ∀ i ∈ is, i ∈ own.map (·.2)) (his1 : ∀ i ∈ is1, i ∈ vs1)
    (hg : ∀ x ∈ xs, ∀ w', InBlk X scope fun Y => WG cl Y (wipeR r (own.map (·.2))) w' tg (enc x) is (ra x))
    (hi1 : ∀ x ∈ xs, ∀ w', InBlk X scope fun Y => WI cl Y (ra x) w' tg1 it1 ((ys x).map enc1))
    (hg1 : ∀ x ∈ xs, ∀ y ∈ ys x, ∀ w', InBlk X scope fun Y => WG cl Y (wipeR (ra x) vs1) w' tg1 (enc1 y) is1 (rb x y))
    (ht1 : ∀ x ∈ xs, ∀ y ∈ ys x, ∀ w', InBlk X scope fun Y => WTs cl Y (rb x y) w' ifs1 (f x y))
    (he : ∀ x ∈ xs, ∀ y ∈ ys x, f x y = true → ∀ w', InBlk X scope fun Y => WP cl Y (rb x y) w' elt (g x y))
    (s : Sta) (σ : L2.St) (I : Env X.K cl s σ r w) (Q : VK) (k : ∀ v s', Step s s' → Ok X.K cl s' w → R cl s'.H0 (.lst (xs.flatMap fun x => ((ys x).filter (f x)).map (g x))) v → Q v s'.H) :
    tLc2 (tIr X tg it) (uG X scope tg) (uTs X scope []) (uI X scope tg1 it1) (uG X scope tg1) (uTs X scope ifs1) (uE X scope elt) (own.map (·.2)) vs1 σ s.H Q := by
  let row : α → List D := fun x => ((ys x).filter (f x)).map (g x)
  have rowz : ∀ x ∈ xs, (row x).length ≤ 300 := fun x hx => by
    have := List.length_filter_le (f x) (ys x)
    have := hz1 x hx
    show (((ys x).filter (f x)).map (g x)).length ≤ 300
    rw [List.length_map]
    omega
  have flatz : ∀ (l : List α), (∀ x ∈ l, x ∈ xs) → (l.flatMap row).length ≤ l.length * 300 := by
    intro l
    induction l with
    | nil => exact fun _ => Nat.le_refl _
    | cons x l ih =>
      intro h
      have h1 := ih fun y hy => h y (List.mem_cons_of_mem _ hy)
      have h2 := rowz x (h x List.mem_cons_self)
      rw [List.flatMap_cons, List.length_append, List.length_cons, Nat.succ_mul]
      omega
  refine hi s σ I _ fun J s1 st1 ok1 itd A nA => ?_
  have I1 := I.step st1 ok1
  refine ⟨fun i m H => m = xs.length - i ∧ i ≤ xs.length ∧ ∃ sx vs, sx.H = H ∧ Hid X.K cl s1 w sx w A (.lst vs) ∧ Rs cl sx.H0 ((xs.take i).flatMap row) vs, ⟨xs.length, by simp, Nat.zero_le _, ⟨s1.H0, upd s1.H A (.lst []), s1.ps⟩, [], rfl, Hid.start ok1 nA, .nil⟩, ?_⟩
  rintro i m H ⟨rfl, hi', sx, vs, rfl, hd, hr⟩
  by_cases hlt : i < xs.length
  · have hx : xs[i]? = some xs[i] := List.getElem?_eq_getElem hlt
    have hmem : xs[i] ∈ xs := List.getElem_mem hlt
    obtain ⟨go, yl⟩ := itd.item i (enc xs[i]) sx hd.st hd.ok.lk (by rw [List.getElem?_map, hx]; rfl)
    refine .inr ⟨go, fun H' => ∃ sx vs, sx.H = H' ∧ Hid X.K cl s1 w sx w A (.lst vs) ∧ Rs cl sx.H0 ((xs.take (i + 1)).flatMap row) vs, fun H' ⟨sx, vs, q⟩ => ⟨xs.length - (i + 1), by omega, rfl, hlt, sx, vs, q⟩, fun v H' y => ?_⟩
    obtain ⟨sy, rfl, sty, oky, rv⟩ := yl v H' y
    have hd2 := hd.step sty (oky _ hd.ok) rfl
    have hr2 := hr.mono sty.e0
    have J0 : Env X.K cl sy (wipe σ (own.map (·.2))) (wipeR r (own.map (·.2))) w := ⟨hd2.ok, (I1.sl.step hd2.st).wipe _⟩
    intro b1 b2 b3 b4 b5
    refine hg _ hmem w b1 b2 b3 b4 b5 sy _ v J0 rv _ fun σ2 k2 l2 c2 => ⟨wipe_same l2 his c2, ?_⟩
    intro c1 c2' c3 c4 c5
    refine (wts_nil (X := X.blk c1 c2' scope (compEnvC scope c4 c3 X.env) c5) (cl := cl) (w := w) (r := ra xs[i])) sy σ2 ⟨hd2.ok, k2⟩ _ fun sz stz okz => ?_
    rw [if_pos rfl]
    have hd3 := hd2.step stz okz rfl
    have hr3 := hr2.mono stz.e0
    have kz : Rvs cl sz (ra xs[i]) σ2 := k2.step stz
    -- the list is owned for the inner loop
    have okO := hd3.toOwn hr3
    have IO : Env X.K cl ⟨sz.H0, sz.H, sz.ps ++ [some A]⟩ σ2 (ra xs[i]) (w ++ [.lst ((xs.take i).flatMap row)]) := ⟨okO, Rvs.grow (σ := σ2) kz (List.prefix_append _ _)⟩
    intro d1 d2 d3 d4 d5
    refine hi1 _ hmem _ d1 d2 d3 d4 d5 ⟨sz.H0, sz.H, sz.ps ++ [some A]⟩ σ2 IO _ fun J1 s4 st4 ok4 itd1 => ?_
    refine ⟨fun j k H => k = (ys xs[i]).length - j ∧ j ≤ (ys xs[i]).length ∧ ∃ sw, sw.H = H ∧ Step s4 sw ∧ Ok X.K cl sw (w ++ [Ow.lst ((xs.take i).flatMap row ++ (((ys xs[i]).take j).filter (f xs[i])).map (g xs[i]))]), ⟨(ys xs[i]).length, by simp, Nat.zero_le _, s4, rfl, .refl _, ?_⟩, ?_⟩
    · rw [List.take_zero, List.filter_nil, List.map_nil, List.append_nil]
      exact ok4
    rintro j k H ⟨rfl, hj', sw, rfl, stw, okw⟩
    by_cases hjl : j < (ys xs[i]).length
    · have hy : (ys xs[i])[j]? = some (ys xs[i])[j] := List.getElem?_eq_getElem hjl
      have hymem : (ys xs[i])[j] ∈ ys xs[i] := List.getElem_mem hjl
      obtain ⟨go1, yl1⟩ := itd1.item j (enc1 (ys xs[i])[j]) sw stw okw.lk (by rw [List.getElem?_map, hy]; rfl)
      refine .inr ⟨go1, fun H' => ∃ sw, sw.H = H' ∧ Step s4 sw ∧ Ok X.K cl sw (w ++ [Ow.lst ((xs.take i).flatMap row ++ (((ys xs[i]).take (j + 1)).filter (f xs[i])).map (g xs[i]))]), fun H' ⟨sw, q⟩ => ⟨(ys xs[i]).length - (j + 1), by omega, rfl, hjl, sw, q⟩, fun v1 H' y1 => ?_⟩
      obtain ⟨sv, rfl, stv, okv, rv1⟩ := yl1 v1 H' y1
      have okv' := okv _ okw
      have kv : Rvs cl sv (ra xs[i]) σ2 := (IO.sl.step st4).step (stw.trans stv)
      have J1v : Env X.K cl sv (wipe σ2 vs1) (wipeR (ra xs[i]) vs1) _ := ⟨okv', kv.wipe _⟩
      intro e1 e2 e3 e4 e5
      refine hg1 _ hmem _ hymem _ e1 e2 e3 e4 e5 sv _ v1 J1v rv1 _ fun σ3 k3 l3 c3 => ⟨wipe_same l3 his1 c3, ?_⟩
      intro f1 f2 f3 f4 f5
      refine ht1 _ hmem _ hymem _ f1 f2 f3 f4 f5 sv σ3 ⟨okv', k3⟩ _ fun su stu oku => ?_
      have st4u := (stw.trans stv).trans stu
      cases hf : f xs[i] (ys xs[i])[j] with
      | false =>
        rw [if_neg Bool.false_ne_true]
        refine ⟨su, rfl, st4u, ?_⟩
        rw [filter_take hy, if_neg (by rw [hf]; exact Bool.false_ne_true), List.append_nil]
        exact oku
      | true =>
        rw [if_pos rfl]
        intro g1 g2 g3 g4 g5
        refine he _ hmem _ hymem hf _ g1 g2 g3 g4 g5 su σ3 ⟨oku, k3.step stu⟩ _ fun v3 s5 st5 ok5 rv5 => ?_
        have st45 := st4u.trans st5
        have hps5 : s5.ps = sz.ps ++ [some A] := ps_same (s := ⟨sz.H0, sz.H, sz.ps ++ [some A]⟩) (st4.trans st45) okO ok5 (by rw [List.length_append, List.length_append]; rfl)
        have hwl := hd3.ok.len
        have hnA : s5.ps[w.length]? = some (some A) := by
          rw [hps5, ← hwl, List.getElem?_append_right (Nat.le_refl _), Nat.sub_self]
          rfl
        obtain ⟨h0, us, q1, q2⟩ := ok5.own_at hnA (u := .lst ((xs.take i).flatMap row ++ (((ys xs[i]).take j).filter (f xs[i])).map (g xs[i]))) (by rw [List.getElem?_append_right (Nat.le_refl _), Nat.sub_self]; rfl)
        refine ⟨us, q1, ?_, ⟨s5.H0, upd s5.H A (.lst (us ++ [v3])), s5.ps⟩, rfl, ?_, ?_⟩
        · rw [q2.length, List.length_append, List.length_map]
          have z1 := flatz (xs.take i) fun x hx => List.mem_of_mem_take hx
          have z2 := List.length_filter_le (f xs[i]) ((ys xs[i]).take j)
          have z3 := hz1 _ hmem
          rw [List.length_take] at z1 z2
          refine Nat.lt_of_le_of_lt (m := 90600) ?_ (by decide)
          have z4 : min i xs.length * 300 ≤ 300 * 300 := Nat.mul_le_mul_right _ (by omega)
          omega
        · exact st45.own_set (.inl (by
            have : s4.ps = sz.ps ++ [some A] := ps_same (s := ⟨sz.H0, sz.H, sz.ps ++ [some A]⟩) st4 okO ok4 rfl
            rw [this]
            simp))
        · have e6 := ok5.own_set (u := .lst ((xs.take i).flatMap row ++ (((ys xs[i]).take (j + 1)).filter (f xs[i])).map (g xs[i]))) (o := .lst (us ++ [v3])) hnA ⟨h0, _, upd_same, by
            rw [filter_take hy, if_pos hf, List.map_append, ← List.append_assoc]
            exact q2.append (.one rv5)⟩
          rw [List.set_append_right _ _ (Nat.le_refl _), Nat.sub_self] at e6
          exact e6
    · have e : j = (ys xs[i]).length := by omega
      subst e
      have hs1 := itd1.stop sw stw okw.lk
      rw [List.length_map] at hs1
      rw [List.take_length] at okw
      obtain ⟨vs', z1, z2⟩ := hd3.ofOwn (st4.trans stw) okw
      refine .inl ⟨hs1, ⟨sw.H0, sw.H, sz.ps⟩, vs', rfl, z1, ?_⟩
      rw [List.take_add_one, hx, List.flatMap_append]
      simpa using z2
  · have e : i = xs.length := by omega
    subst e
    have hs := itd.stop sx hd.st hd.ok.lk
    rw [List.length_map] at hs
    rw [List.take_length] at hr
    obtain ⟨z1, z2, z3⟩ := hd.show_
    exact .inl ⟨hs, k _ ⟨upd sx.H0 A (.lst vs), sx.H, sx.ps⟩ (st1.trans z1) z2 ⟨A, vs, rfl, upd_same, hr.mono z3⟩⟩
theorem suI {X : Cx} {scope : Scope} {tg it : Expr} (s : Shared) (H : Hp) (C : Addr) (cl : List (Str × Addr)) (fp : List Addr) : PI (X.blk s H scope (compEnvC scope cl C X.env) fp) tg it (uI X scope tg it) := ⟨fun pins s' σ H' Q I h => sI.run pins s' σ H' Q I (h s H C cl fp)⟩
/-- name = [.. for .. for .. if ..] -/
theorem ws_setLc2 {n : Str} {m : Nat} {F : Ph} (i : Nat) {p' pos2 : Pos} {c : Expr} {xs : List α} {enc : α → D} {ys : α → List β} {enc1 : β → D} {ra : α → List Sl} {rb : α → β → List Sl} {f : α → β → Bool} {g : α → β → D} {is is1 : List Nat} (own : List (Str × Nat)) (vs1 : List Nat) (hc : X.calm = true) (hN : X.N.Nodup) (ok : BlkOk X.N X.env.scope scope own) (hv : ∀ i ∈ vs1, i ∈ own.map (·.2)) (hz : xs.length ≤ 300) (hz1 : ∀ x ∈ xs, (ys x).length ≤ 300)
    (hi : WI cl X r w tg it (xs.map enc)) (his : ∀ i ∈ is, i ∈ own.map (·.2)) (his1 : ∀ i ∈ is1, i ∈ vs1)
    (hg : ∀ x ∈ xs, ∀ w', InBlk X scope fun Y => WG cl Y (wipeR r (own.map (·.2))) w' tg (enc x) is (ra x))
    (hi1 : ∀ x ∈ xs, ∀ w', InBlk X scope fun Y => WI cl Y (ra x) w' tg1 it1 ((ys x).map enc1))
    (hg1 : ∀ x ∈ xs, ∀ y ∈ ys x, ∀ w', InBlk X scope fun Y => WG cl Y (wipeR (ra x) vs1) w' tg1 (enc1 y) is1 (rb x y))
    (ht1 : ∀ x ∈ xs, ∀ y ∈ ys x, ∀ w', InBlk X scope fun Y => WT cl Y (rb x y) w' c (f x y))
    (he : ∀ x ∈ xs, ∀ y ∈ ys x, f x y = true → ∀ w', InBlk X scope fun Y => WP cl Y (rb x y) w' elt (g x y))
    (k : F.nx (r.set i (.d (.lst (xs.flatMap fun x => ((ys x).filter (f x)).map (g x))))) w) (hy : X.N[i]? = some n := by rfl) (hyl : X.env.scope.names.lookup n = some .local := by rfl) (hsw : swapsWith (.ListComp elt [⟨tg, it, [], 0⟩, ⟨tg1, it1, [c], 0⟩] scope pos2) (some (.Name n p')) pos.line X.env = pure true := by exact sw_true rfl rfl rfl rfl) (hs : ∀ x, foldedSetIterable it X.env x = pure x := by intro _; rfl) (hs1 : ∀ env x, foldedSetIterable it1 env x = pure x := by intro _ _; rfl) :
    WS cl X m r w (.Assign [.Name n p'] (.ListComp elt [⟨tg, it, [], 0⟩, ⟨tg1, it1, [c], 0⟩] scope pos2) pos) F := fun B s σ D hm st I C =>
  ⟨_, ps_setLc2 hc hN hy hyl hsw sI ok hv suG suTs suI suG suTs suE hs hs1, lc2_pure hz hz1 hi his his1 hg hi1 hg1 (fun x hx y hy w' b1 b2 b3 b4 b5 => wts_one (ht1 x hx y hy w' b1 b2 b3 b4 b5)) he s σ I _ fun v s1 st1 ok1 rv => C.nx s1 _ _ w (st.trans st1) ⟨ok1, (I.sl.step st1).set i (x := .d _) ⟨v, rfl, rv⟩⟩ k⟩
end
end FV
set_option Elab.async false
set_option linter.all false
set_option maxRecDepth 100000
set_option maxHeartbeats 2000000
/-! The data layer, part P: values of which only a property is known; the law's tape. -/
namespace FV
open PySem PySem.Spec PyProof.Rows L2
section
variable (cl : Nat → Addr) (X : Cx)
/-- some datum of which F holds; nothing owned changes its description -/
def WQ (r : List Sl) (w : List Ow) (e : Expr) (F : D → Prop) : Prop := ∀ (s : Sta) (σ : L2.St), Env X.K cl s σ r w → ∀ Q : VK, (∀ v s' d, Step s s' → Ok X.K cl s' w → R cl s'.H0 d v → F d → Q v s'.H) → tE X e σ s.H Q
def WAq (r : List Sl) (w : List Ow) (es : List Expr) (F : List D → Prop) : Prop := ∀ (s : Sta) (σ : L2.St), Env X.K cl s σ r w → ∀ Q : List V → Hp → Prop, (∀ vs s' ds, Step s s' → Ok X.K cl s' w → Rs cl s'.H0 ds vs → F ds → Q vs s'.H) → tA X es σ s.H Q
def WTq (r : List Sl) (w : List Ow) (e : Expr) (F : Bool → Prop) : Prop := ∀ (s : Sta) (σ : L2.St), Env X.K cl s σ r w → ∀ Q : Bool → Hp → Prop, (∀ b s', Step s s' → Ok X.K cl s' w → F b → Q b s'.H) → tT X e σ s.H Q
end
section
variable {cl : Nat → Addr} {X : Cx} {r : List Sl} {w : List Ow} {e a b c tg : Expr} {d x y z : D} {pos p p2 : Pos} {n : Str} {es : List Expr} {ds : List D} {k m : Nat} {F G : D → Prop} {Ph0 : Ph}
theorem wq_p (h : WP cl X r w e d) (f : F d) : WQ cl X r w e F := fun s σ I Q q => h s σ I _ fun v s' st ok rv => q v s' d st ok rv f
theorem wq_mono (h : WQ cl X r w e F) (g : ∀ d, F d → G d) : WQ cl X r w e G := fun s σ I Q q => h s σ I _ fun v s' d st ok rv f => q v s' d st ok rv (g d f)
theorem waq_nil : WAq cl X r w [] (fun ds => ds = []) := fun s σ I Q q => ⟨_, pa_nil, q [] s [] (.refl s) I.ok .nil rfl⟩
theorem waq_cons {H : List D → Prop} (h : WQ cl X r w e F) (t : WAq cl X r w es H) (hs : starEach (e :: es) X.env = (false, eval e X.env) :: starEach es X.env := by rfl) : WAq cl X r w (e :: es) (fun ds => ∃ x t, ds = x :: t ∧ F x ∧ H t) := fun s σ I Q q =>
  ⟨_, pa_cons sE sA hs, h s σ I _ fun v s1 d st1 ok1 r1 f => t s1 σ (I.step st1 ok1) _ fun vs s2 ds st2 ok2 r2 g => q _ s2 (d :: ds) (st1.trans st2) ok2 (.cons (r1.mono st2.e0) r2) ⟨d, ds, rfl, f, g⟩⟩
theorem wtq_t {t : Bool} {F : Bool → Prop} (h : WT cl X r w e t) (f : F t) : WTq cl X r w e F := fun s σ I Q q => h s σ I _ fun s' st ok => q t s' st ok f
/-- name = e -/
theorem ws_setq (i : Nat) {p' : Pos} (hN : X.N.Nodup) (h : WQ cl X r w e F) (k : ∀ d, F d → Ph0.nx (r.set i (.d d)) w) (hi : X.N[i]? = some n := by rfl) (hx : Loc X.env.scope n := by first | exact .inl rfl | exact .inr rfl) (hs : swapsWith e (some (.Name n p')) pos.line X.env = pure false := by rfl)
    (hf : X.fn n = true ∨ X.env.scope.names.lookup n = some .local := by first | exact .inl rfl | exact .inr rfl) : WS cl X m r w (.Assign [.Name n p'] e pos) Ph0 := fun B s σ D hm st I C =>
  ⟨_, ps_set hN hi hx sE hs hf, h s σ I _ fun v s1 d st1 ok1 rv f => C.nx s1 _ _ w (st.trans st1) ⟨ok1, (I.sl.step st1).set i (x := .d d) ⟨v, rfl, rv⟩⟩ (k d f)⟩
theorem ws_retq (h : WQ cl X r w e F) (k : ∀ d, F d → Ph0.rt (.d d) w) : WS cl X m r w (.Return (some e) pos) Ph0 := fun B s σ D hm st I C => ⟨_, ps_ret sE, h s σ I _ fun v s1 d st1 ok1 rv f => C.rt s1 v (.d d) w (st.trans st1) ok1 ⟨v, rfl, rv⟩ (k d f)⟩
theorem ws_ifq {F : Bool → Prop} {ss ts : List Stmt} (h : WTq cl X r w c F) (k1 : F true → WSs cl X m r w ss Ph0) (k2 : F false → WSs cl X m r w ts Ph0) : WS cl X m r w (.If c ss ts pos) Ph0 := fun B s σ D hm st I C =>
  ⟨_, ps_if sT sSs sSs, h s σ I _ fun t s1 st1 ok1 f => by
    cases t with
    | true =>
      rw [if_pos rfl]
      exact k1 f B s1 σ D hm (st.trans st1) (I.step st1 ok1) C
    | false =>
      rw [if_neg Bool.false_ne_true]
      exact k2 f B s1 σ D hm (st.trans st1) (I.step st1 ok1) C⟩
/-- a or b, b only known by a property -/
theorem wtq_or {t : Bool} {F : Bool → Prop} (h : WT cl X r w a t) (h2 : t = false → WTq cl X r w b F) (ht : t = true → F true) : WTq cl X r w (.BoolOp .Or [a, b] pos) F := fun s σ I Q q =>
  ⟨_, (pw_or sT (pw_or1 sT)).pt, h s σ I _ fun s1 st ok => by
    cases t with
    | true => exact q true s1 st ok (ht rfl)
    | false => exact h2 rfl s1 σ (I.step st ok) _ fun b s2 st2 ok2 f => q b s2 (st.trans st2) ok2 f⟩
theorem wtq_eq {j : Int} (ha : WQ cl X r w a fun x => ∃ i : Int, x = .int i) (hb : WP cl X r w b (.int j)) : WTq cl X r w (.Compare a [.Eq] [b] pos) (fun _ => True) := fun s σ I Q q =>
  ⟨_, pt_cmpR op_eq sE sE (nomark _), ha s σ I _ fun u s1 d st1 ok1 r1 f => hb s1 σ (I.step st1 ok1) _ fun v s2 st2 ok2 r2 => by
    obtain ⟨i, rfl⟩ := f
    obtain rfl : u = .int i := r1
    obtain rfl : v = .int j := r2
    exact ⟨rfl, _, rfl, q _ s2 (st1.trans st2) ok2 trivial⟩⟩
theorem wtq_gt {j : Int} (ha : WQ cl X r w a fun x => ∃ i : Int, x = .int i) (hb : WP cl X r w b (.int j)) : WTq cl X r w (.Compare a [.Gt] [b] pos) (fun _ => True) := fun s σ I Q q =>
  ⟨_, pt_cmpR op_gt sE sE (nomark _), ha s σ I _ fun u s1 d st1 ok1 r1 f => hb s1 σ (I.step st1 ok1) _ fun v s2 st2 ok2 r2 => by
    obtain ⟨i, rfl⟩ := f
    obtain rfl : u = .int i := r1
    obtain rfl : v = .int j := r2
    exact ⟨i, j, rfl, rfl, _, rfl, q _ s2 (st1.trans st2) ok2 trivial⟩⟩
theorem wq_gt {j : Int} (ha : WQ cl X r w a fun x => ∃ i : Int, x = .int i) (hb : WP cl X r w b (.int j)) : WQ cl X r w (.Compare a [.Gt] [b] pos) (fun x => ∃ t, x = .bl t) := fun s σ I Q q =>
  ⟨_, pe_cmpR op_gt sE sE (nomark _), ha s σ I _ fun u s1 d st1 ok1 r1 f => hb s1 σ (I.step st1 ok1) _ fun v s2 st2 ok2 r2 => by
    obtain ⟨i, rfl⟩ := f
    obtain rfl : u = .int i := r1
    obtain rfl : v = .int j := r2
    exact ⟨i, j, rfl, rfl, q _ s2 (.bl (decide (j < i))) (st1.trans st2) ok2 rfl ⟨_, rfl⟩⟩⟩
/-- i + e -/
theorem wq_addN {i : Nat} {P : Nat → Prop} (ha : WP cl X r w a (eN i)) (hb : WQ cl X r w b fun x => ∃ j, x = eN j ∧ P j) : WQ cl X r w (.BinOp a .Add b pos) (fun x => ∃ j, x = eN (i + j) ∧ P j) := fun s σ I Q q =>
  ⟨_, pe_op op_add sE sE, ha s σ I _ fun u s1 st1 ok1 r1 => hb s1 σ (I.step st1 ok1) _ fun v s2 d st2 ok2 r2 f => by
    obtain ⟨j, rfl, hj⟩ := f
    obtain rfl : u = .int (i : Int) := r1
    obtain rfl : v = .int (j : Int) := r2
    exact ⟨(i : Int), (j : Int), rfl, rfl, q _ s2 (eN (i + j)) (st1.trans st2) ok2 rfl ⟨j, rfl, hj⟩⟩⟩
/-- l[e] -/
theorem wq_ixL {β : Type} {enc : β → D} {xs : List β} (ha : WP cl X r w a (.lst (xs.map enc))) (hb : WQ cl X r w b fun x => ∃ j, x = eN j ∧ j < xs.length) (hs : PlainIx b := by exact fun _ _ => rfl) : WQ cl X r w (.Subscript a b pos) (fun x => ∃ y ∈ xs, x = enc y) := fun s σ I Q q =>
  ⟨_, pe_ix ix_list sE sE hs, ha s σ I _ fun u s1 st1 ok1 r1 => hb s1 σ (I.step st1 ok1) _ fun v s2 d st2 ok2 r2 f => by
    obtain ⟨j, rfl, hj⟩ := f
    obtain rfl : v = .int (j : Int) := r2
    obtain ⟨p, us, rfl, h1, h2⟩ := r1.mono st2.e0
    obtain ⟨t, e1, e2⟩ := h2.atI (at_map (enc := enc) (List.getElem?_eq_getElem hj))
    exact ⟨p, us, _, t, rfl, rfl, ok2.lk.sq h1, e1, q t s2 _ (st1.trans st2) ok2 e2 ⟨xs[j], List.getElem_mem hj, rfl⟩⟩⟩
/-- (e, f) -/
theorem wq_tup {H : List D → Prop} {kk : Nat} (h : WAq cl X r w es H) (hl : ∀ ds, H ds → ds.length ≤ 100000) : WQ cl X r w (.Tuple es kk pos) (fun x => ∃ ds, x = .tup ds ∧ H ds) := fun s σ I Q q =>
  ⟨_, pe_tup sA, h s σ I _ fun vs s1 ds st ok rs f => ⟨by rw [rs.length]; exact small (hl ds f), fun p np => q _ (s1.add p (.tup vs)) (.tup ds) (st.trans (.add ok.lk np)) (ok.add np) ⟨p, vs, rfl, upd_same, rs.mono (Ex.new (ok.lk.nil np))⟩ ⟨ds, rfl, f⟩⟩⟩

theorem wq_callTy {id : String} {q : List V → Hp → VK → Prop} {G : List D → Prop} (hc : CallR X (.type id) q) (hm : X.mg n = none) (hv : bootBuiltins n = some (.type id)) (ha : WAq cl X r w (e :: es) G) (hq : ∀ ds, G ds → ∃ z, RC X.K cl q ds w z ∧ F z) (hg : Gl X n) (hn : n ≠ "__name__") (hdb : (n == ("__debug__" : Str)) = false)
    (he : starEach (e :: es) X.env = (false, eval e X.env) :: starEach es X.env) (hpl : (backTo pos (starEach es X.env)).any (·.1) = false) : WQ cl X r w (.Call (.Name n p) (e :: es) [] pos) F := fun s σ I Q k =>
  ⟨_, pe_callTy hc hg hm hv sA hn hdb he hpl, ha s σ I _ fun vs s1 ds st ok rs f => by
    obtain ⟨z, h1, h2⟩ := hq ds f
    exact h1 s1 vs ok rs Q fun t s2 st2 ok2 rv => k t s2 z (st.trans st2) ok2 rv h2⟩
theorem wq_call {id : String} {q : List V → Hp → VK → Prop} {G : List D → Prop} (hc : CallR X (.builtin id) q) (hm : X.mg n = none) (hv : bootBuiltins n = some (.builtin id)) (ha : WAq cl X r w (e :: es) G) (hq : ∀ ds, G ds → ∃ z, RC X.K cl q ds w z ∧ F z) (hg : Gl X n) (hn : n ≠ "__name__") (hdb : (n == ("__debug__" : Str)) = false)
    (he : starEach (e :: es) X.env = (false, eval e X.env) :: starEach es X.env) (hpl : (backTo pos (starEach es X.env)).any (·.1) = false) : WQ cl X r w (.Call (.Name n p) (e :: es) [] pos) F := fun s σ I Q k =>
  ⟨_, pe_callB hc hg hm hv sA hn hdb he hpl, ha s σ I _ fun vs s1 ds st ok rs f => by
    obtain ⟨z, h1, h2⟩ := hq ds f
    exact h1 s1 vs ok rs Q fun t s2 st2 ok2 rv => k t s2 z (st.trans st2) ok2 rv h2⟩
theorem one_q (h : WQ cl X r w a F) (he : starEach [a] X.env = (false, eval a X.env) :: starEach [] X.env := by rfl) : WAq cl X r w [a] (fun ds => ∃ x, ds = [x] ∧ F x) := fun s σ I Q q => waq_cons h waq_nil he s σ I Q fun vs s' ds st ok rs ⟨x, t, e1, f, e2⟩ => q vs s' ds st ok rs ⟨x, by rw [e1, e2], f⟩
/-- tuple(e) -/
theorem wq_tupleL {H : List D → Prop} (B : Bl X.mg) (ha : WQ cl X r w a fun x => ∃ ds, x = .lst ds ∧ H ds) (hg : Gl X "tuple" := by rfl) (he : starEach [a] X.env = (false, eval a X.env) :: starEach [] X.env := by rfl) (hpl : (backTo pos (starEach [] X.env)).any (·.1) = false := by rfl) : WQ cl X r w (.Call (.Name "tuple" p) [a] [] pos) (fun x => ∃ ds, x = .tup ds ∧ H ds) :=
  wq_callTy call_tuple_of B.tuple (by decide +kernel) (one_q ha he) (fun ds ⟨x, e1, us, e2, h⟩ => ⟨.tup us, fun s vs ok rs Q k => by
    subst e1 e2
    obtain ⟨v, rfl, rv⟩ := rs1 rs
    obtain ⟨a1, us, rfl, h1, h2⟩ := rv
    exact ⟨a1, us, rfl, .inl ⟨ok.lk.sq h1, fun p np => k _ (s.add p _) (.add ok.lk np) (ok.add np) ⟨p, _, rfl, upd_same, h2.mono (Ex.new (ok.lk.nil np))⟩⟩⟩, us, rfl, h⟩) hg (by decide) (by decide) he hpl
/-- l[:k] -/
theorem wq_to {H : List D → Prop} {j : Int} (ha : WQ cl X r w a fun x => ∃ ds, x = .lst ds ∧ H ds) (hb : WP cl X r w b (.int j)) : WQ cl X r w (.Subscript a (.Slice none (some b) none p2) pos) (fun x => ∃ ds, x = .lst (cutD ds none (some j)) ∧ H ds) := fun s σ I Q q => by
  refine ⟨_, pe_slice sl_list sE po_none (po_some sE), ha s σ I _ fun u s1 d st1 ok1 r1 f => hb s1 σ (I.step st1 ok1) _ fun v s2 st2 ok2 r2 => ?_⟩
  obtain ⟨ds, rfl, hd⟩ := f
  obtain rfl : v = .int j := r2
  obtain ⟨p1, us, rfl, h1, h2⟩ := r1.mono st2.e0
  exact ⟨j, rfl, p1, us, rfl, ok2.lk.sq h1, fun p np => q _ (s2.add p _) (.lst (cutD ds none (some j))) ((st1.trans st2).trans (.add ok2.lk np)) (ok2.add np) ⟨p, _, rfl, upd_same, (h2.cut none (some j)).mono (Ex.new (ok2.lk.nil np))⟩ ⟨ds, rfl, hd⟩⟩
/-- sorted(e), ints -/
theorem wq_sortedN {H : List Nat → Prop} (B : Bl X.mg) (ha : WQ cl X r w a fun x => ∃ l, x = lNs l ∧ H l) (hg : Gl X "sorted" := by rfl) (he : starEach [a] X.env = (false, eval a X.env) :: starEach [] X.env := by rfl) (hpl : (backTo pos (starEach [] X.env)).any (·.1) = false := by rfl) : WQ cl X r w (.Call (.Name "sorted" p) [a] [] pos) (fun x => ∃ l m, x = lNs m ∧ H l ∧ m.Perm l) := fun s σ I Q q =>
  ⟨_, pe_callB cr_sortedI hg B.sorted (by decide +kernel) (pa_cons sE pa_nil he) (by decide) (by decide) he hpl, ha s σ I _ fun v s1 d st ok rv f => by
    obtain ⟨l, rfl, hl⟩ := f
    obtain ⟨a1, us, rfl, g1, g2⟩ := rv
    rw [ints_of] at g2
    obtain rfl := g2.ints_of
    refine ⟨a1, l.map Int.ofNat, rfl, ok.lk.sq g1, fun ns' p q1 q2 np => ?_⟩
    have hm : ns' = (ns'.map Int.toNat).map Int.ofNat := by
      rw [List.map_map]
      refine ((List.map_id ns').symm.trans (List.map_congr_left fun i hi => ?_))
      obtain ⟨j, _, rfl⟩ := List.mem_map.mp (q1.mem_iff.mp hi)
      rfl
    have hperm : (ns'.map Int.toNat).Perm l := by
      have := q1.map Int.toNat
      rw [List.map_map] at this
      have e2 : l.map (Int.toNat ∘ Int.ofNat) = l := by
        refine (List.map_congr_left fun i _ => ?_).trans (List.map_id l)
        rfl
      rw [e2] at this
      exact this
    exact q _ (s1.add p _) (lNs (ns'.map Int.toNat)) (st.trans (.add ok.lk np)) (ok.add np) ⟨p, ns'.map V.int, rfl, upd_same, by rw [ints_of, ← hm]; exact Rs.ints _⟩ ⟨l, _, rfl, hl, hperm⟩⟩
/-- f(e, ..), the arguments only known by a property -/
theorem wq_fnU {k' : Nat} {G : List D → Prop} {pre : List D → Prop} {val : List D → D} {ps : List Str} {CX : CXT} (Fc : Cal X.prog X.w X.K X.mg X.base CX k n ps (spP X.K cl pre val)) (hr : Room k' X.A) (hk : k ≤ k') (ha : WAq cl X r w (e :: es) G) (hp : ∀ ds, G ds → pre ds ∧ F (val ds)) {E : XK} (hx : Passes CX X E) (hg : Gl X n := by rfl) (hdb : (n == ("__debug__" : Str)) = false := by decide)
    (he : starEach (e :: es) X.env = (false, eval e X.env) :: starEach es X.env := by rfl) (hpl : (backTo pos (starEach es X.env)).any (·.1) = false := by rfl) : WQ cl X r w (.Call (.Name n p) (e :: es) [] pos) F := fun s σ I Q q => by
  obtain ⟨f, fd, Fo, hm, hkp, hb⟩ := Fc
  exact ⟨_, pe_call Fo (hr.mono hk) hg hm hkp hb .nil hx sA hdb he hpl, ha s σ I _ fun vs s1 ds st ok rs g => by
    rw [List.append_nil]
    obtain ⟨h1, h2⟩ := hp ds g
    exact call_pure s1 ok rs h1 fun v s2 st2 ok2 rv => q v s2 _ (st.trans st2) ok2 rv h2⟩
/-- a or b as a value -/
theorem wq_orV (ha : WQ cl X r w a fun x => ∃ t, x = .bl t) (hb : WQ cl X r w b F) (hF : F (.bl true)) : WQ cl X r w (.BoolOp .Or [a, b] pos) F := fun s σ I Q q =>
  ⟨_, pe_or sE (pe_one sE), ha s σ I _ fun u s1 d st1 ok1 r1 f => by
    obtain ⟨t, rfl⟩ := f
    obtain rfl : u = .bl t := r1
    refine ⟨t, rfl, ?_⟩
    cases t with
    | true =>
      rw [if_pos rfl]
      exact q _ s1 (.bl true) st1 ok1 rfl hF
    | false =>
      rw [if_neg Bool.false_ne_true]
      exact hb s1 σ (I.step st1 ok1) Q fun v s2 d st2 ok2 r2 f => q v s2 d (st1.trans st2) ok2 r2 f⟩

/-! ### the tape -/
abbrev tpD (ns : List Int) (i b m c : Int) : List D := [.lst (ns.map .int), .int i, .int b, .int m, .int c]
theorem tape_open {K : PySem.W.Frag} {H0 H : Hp} {p : Addr} (h : OwOk K cl H0 H p .tape) : ∃ ns i b m c, 0 ≤ i ∧ 0 ≤ b ∧ OwOk K cl H0 H p (.lst (tpD ns i b m c)) := by
  obtain ⟨h0, sL, ns, i, b, m, c, h1, h2, h3, h4⟩ := h
  exact ⟨ns, i, b, m, c, h3, h4, h0, _, h1, .cons ⟨sL, _, rfl, h2, Rs.ints ns⟩ (.cons rfl (.cons rfl (.cons rfl (.cons rfl .nil))))⟩
theorem tape_close {K : PySem.W.Frag} {H0 H : Hp} {p : Addr} {ns : List Int} {i b m c : Int} (h : OwOk K cl H0 H p (.lst (tpD ns i b m c))) (h3 : 0 ≤ i) (h4 : 0 ≤ b) : OwOk K cl H0 H p .tape := by
  obtain ⟨h0, vs, h1, v1, t1, rfl, ⟨sL, us, rfl, g1, g2⟩, v2, t2, rfl, e2, v3, t3, rfl, e3, v4, t4, rfl, e4, v5, t5, rfl, e5, e6⟩ := h
  obtain rfl : v2 = .int i := e2
  obtain rfl : v3 = .int b := e3
  obtain rfl : v4 = .int m := e4
  obtain rfl : v5 = .int c := e5
  obtain rfl : t5 = [] := e6
  obtain rfl := g2.ints_of
  exact ⟨h0, sL, ns, i, b, m, c, h1, g1, h3, h4⟩
/-- a def that draws from the tape, its first argument -/
def spT (K : PySem.W.Frag) (cl : Nat → Addr) (pre : List D → Prop) (post : List D → D → Prop) : Sp := fun vs H Q _ => ∃ (s : Sta) (t : Addr) (us : List V) (ds : List D), vs = .ref t :: us ∧ s.H = H ∧ s.ps = [some t] ∧ Ok K cl s [.tape] ∧ Rs cl s.H0 ds us ∧ pre ds ∧
  ∀ v s' x, Step s s' → Ok K cl s' [.tape] → post ds x → R cl s'.H0 x v → Q v s'.H
theorem wq_tape {k' nn i : Nat} {nt : Str} {pt : Pos} {G : List D → Prop} {pre : List D → Prop} {post : List D → D → Prop} {ps : List Str} {CX : CXT} (Fc : Cal X.prog X.w X.K X.mg X.base CX k n ps (spT X.K cl pre post)) (hr : Room k' X.A) (hk : k ≤ k') (hsl : r[i]? = some (.o nn)) (hw : w[nn]? = some .tape) (ha : WAq cl X r w es G) (hp : ∀ ds, G ds → pre ds ∧ ∀ x, post ds x → F x) {E : XK} (hx : Passes CX X E) (hN : X.N[i]? = some nt := by rfl) (hv : Vis X.env.scope nt := by first | exact Or.inl rfl | exact Or.inr (Or.inl rfl) | exact Or.inr (Or.inr rfl)) (hd1 : (nt == ("__debug__" : Str)) = false := by decide)
    (hcd : (nt == ("__classdict__" : Str)) = false := by decide) (hg : Gl X n := by rfl) (hdb : (n == ("__debug__" : Str)) = false := by decide)
    (he : starEach (.Name nt pt :: es) X.env = (false, eval (.Name nt pt) X.env) :: starEach es X.env := by rfl) (hpl : (backTo pos (starEach es X.env)).any (·.1) = false := by rfl) : WQ cl X r w (.Call (.Name n p) (.Name nt pt :: es) [] pos) F := fun s σ I Q q => by
  obtain ⟨f, fd, Fo, hm, hkp, hb⟩ := Fc
  refine ⟨_, pe_call Fo (hr.mono hk) hg hm hkp hb .nil hx (pa_cons (pe_var hN hv hd1 hcd) sA he) hdb he hpl, ?_⟩
  obtain ⟨v, e1, t0, e2, e3⟩ := I.sl.get hsl
  subst e3
  refine ⟨_, e1, ha s σ I _ fun vs s1 ds st ok rs g => ?_⟩
  have hps : s1.ps = s.ps := ps_same st I.ok ok rfl
  have e4 : s1.ps[nn]? = some (some t0) := by rw [hps]; exact e2
  obtain ⟨h1, h2⟩ := hp ds g
  show spT X.K cl pre post (.ref t0 :: (vs ++ [])) s1.H Q E
  rw [List.append_nil]
  refine ⟨⟨s1.H0, s1.H, [some t0]⟩, t0, vs, ds, rfl, rfl, rfl, part_in ok e4 hw, rs, h1, fun v s2 x st2 ok2 px rv => ?_⟩
  obtain ⟨g1, g2⟩ := part_out ok e4 st2 ok2
  have ew : w.set nn .tape = w := by
    apply List.ext_getElem?
    intro j
    by_cases z : nn = j
    · subst z
      rw [hw, List.getElem?_set_self (List.getElem?_eq_some_iff.mp hw).1]
    · rw [List.getElem?_set_ne z]
  rw [ew] at g2
  exact q v ⟨s2.H0, s2.H, s1.ps⟩ x (st.trans g1) g2 rv (h2 x px)
end
section
variable {P : Program} {W : World} {K : PySem.W.Frag} {mg : Str → Option Value} {base : Heap} {cl : Nat → Addr} {name qual : Str} {params : Arguments} {body : List Stmt} {scope : Scope} {f : Addr} {fd : FuncData} {N ps : List Str} {k : Nat} {pre : List D → Prop} {post : List D → D → Prop}
/-- THE RULE for a def that draws from the tape -/
theorem fn_tape (F : FunD K name qual params body scope [] [] f fd) (S : FnScope N ps scope) (hl : ∀ ds, pre ds → ds.length + 1 = ps.length)
    (hb : ∀ cdv A outer s H E, Room k (Xd P W K mg base N qual scope f cdv A outer s H E).A → ∀ ds, pre ds →
      WSs cl (Xd P W K mg base N qual scope f cdv A outer s H E) 1 (.o 0 :: ds.map Sl.d ++ List.replicate (N.length - (ds.length + 1)) .u) [.tape] body { nx := fun _ _ => False, rt := fun x w => ∃ d t, x = .d d ∧ post ds d ∧ w = .tape :: t }) : FnOk P W K mg base CX0 (k + 1) f fd ps (spT K cl pre post) := by
  refine F.ok S (fun vs H Q E h => ?_) (fun cdv A outer s H vs Q E hr h => ?_)
  · obtain ⟨s, t, us, ds, rfl, _, _, _, rs, hp, _⟩ := h
    rw [List.length_cons, rs.length]
    exact hl ds hp
  · obtain ⟨s0, t, us, ds, rfl, rfl, hps, ok, rs, hp, q⟩ := h
    have key := hb cdv A outer s s0.H E hr ds hp
    refine ⟨_, PSs.nox sSs, ?_⟩
    refine key s0 s0 (L2.start N (.ref t :: us)) _ (by rw [hps]; rfl) (.refl s0) ⟨ok, ?_⟩ ⟨?_, ?_, ?_, ?_⟩
    · unfold L2.start
      rw [List.length_cons, rs.length]
      refine ⟨some (.ref t), _, rfl, ⟨t, by rw [hps]; rfl, rfl⟩, ?_⟩
      exact (Rvs.ds rs).append (Rvs.us _ _)
    · exact fun _ _ _ _ _ _ h => h.elim
    · intro s1 v x1 w1 st1 ok1 rv e
      obtain ⟨d, t1, rfl, hpost, rfl⟩ := e
      obtain ⟨u, e1, e2⟩ := rv
      cases e1
      have e0 : s1.ps[0]? = some (some t) := by
        obtain ⟨tl, htl⟩ := st1.e3
        rw [← htl, hps]
        rfl
      refine q v ⟨s1.H0, s1.H, [some t]⟩ d ⟨st1.e0, st1.e1, st1.e2, by rw [hps]; exact List.prefix_refl _, fun p h => .inl (by rw [hps]; exact h), st1.e5⟩ (part_in ok1 e0 rfl) hpost e2
    · exact fun _ _ _ _ _ _ h => h.elim
    · exact fun _ _ _ _ _ _ h => h.elim
end
end FV
set_option Elab.async false
set_option linter.all false
set_option maxRecDepth 100000
set_option maxHeartbeats 2000000
/-! The data layer, part Q: the tape's cells, lists changed, ranges drawn. -/
namespace FV
open PySem PySem.Spec PyProof.Rows L2
theorem Ok.reset {K : PySem.W.Frag} {cl : Nat → Addr} {s : Sta} {w : List Ow} {n : Nat} {u : Ow} (ok : Ok K cl s w) (h : ∀ p, s.ps[n]? = some (some p) → OwOk K cl s.H0 s.H p u) (hu : ∀ (p : Addr) (q : Str), u ≠ .tb p q := by intro _ _ z; cases z) : Ok K cl s (w.set n u) := by
  refine ⟨ok.lk, ok.nd, by rw [List.length_set]; exact ok.len, fun i p v e1 e2 => ?_, tb_set ok.tb fun p q e => absurd e (hu p q)⟩
  by_cases z : n = i
  · subst z
    have hl : n < w.length := by
      rw [← ok.len]
      exact ps_get e1
    rw [List.getElem?_set_self hl] at e2
    cases e2
    exact h p e1
  · rw [List.getElem?_set_ne z] at e2
    exact ok.ow i p v e1 e2
section
variable {cl : Nat → Addr} {X : Cx} {r : List Sl} {w : List Ow} {e a b c tg : Expr} {d x y z : D} {pos p p2 : Pos} {n : Str} {es : List Expr} {ds : List D} {k m nn : Nat} {F : Ph} {sts : List Stmt}
theorem wss_tapeOpen (i : Nat) (hr : r[i]? = some (.o nn)) (hw : w[nn]? = some .tape) (h : ∀ ns j b m' c, 0 ≤ j → 0 ≤ b → WSs cl X m r (w.set nn (.lst (tpD ns j b m' c))) sts F) : WSs cl X m r w sts F := fun B s σ D hm st I C => by
  obtain ⟨v, e1, p0, e2, e3⟩ := I.sl.get hr
  obtain ⟨ns, j, b, m', c, h1, h2, h3⟩ := tape_open (I.ok.own_at e2 hw)
  refine h ns j b m' c h1 h2 B s σ D hm st ⟨I.ok.reset fun q e4 => ?_, I.sl⟩ C
  rw [e2] at e4
  cases e4
  exact h3
theorem wss_tapeClose (nn : Nat) (h : WSs cl X m r w sts { F with rt := fun x w1 => ∃ ns j b m' c, w1[nn]? = some (.lst (tpD ns j b m' c)) ∧ 0 ≤ j ∧ 0 ≤ b ∧ F.rt x (w1.set nn .tape) }) : WSs cl X m r w sts F := fun B s σ D hm st I C =>
  h B s σ D hm st I ⟨C.nx, fun s1 v x w1 st1 ok1 rv ⟨ns, j, b, m', c, h1, h2, h3, h4⟩ => C.rt s1 v x _ st1 (ok1.reset fun q e => tape_close (ok1.own_at e h1) h2 h3) rv h4, C.bk, C.ct⟩
/-- x[k] = e, x an owned list -/
theorem ws_lset (i : Nat) {j : Nat} {jj : Nat} {pc ps : Pos} (hr : r[i]? = some (.o nn)) (hw : w[nn]? = some (.lst ds)) (h : WP cl X r w e d) (hj : j < ds.length) (k : F.nx r (w.set nn (.lst (ds.set j d)))) (hN : X.N[i]? = some n := by rfl) (hv : Vis X.env.scope n := by first | exact Or.inl rfl | exact Or.inr (Or.inl rfl))
    (hd : (n == ("__debug__" : Str)) = false := by decide) (hcd : (n == ("__classdict__" : Str)) = false := by decide)
    (hs : swapsWithSole [.Subscript (.Name n p) (.Constant (.int (j : Int)) jj pc) ps] e pos.line X.env = pure false := by rfl) (hsw : swappedStores [.Subscript (.Name n p) (.Constant (.int (j : Int)) jj pc) ps] e X.env = pure none := by rfl)
    (h1 : (assignEach [.Subscript (.Name n p) (.Constant (.int (j : Int)) jj pc) ps] X.env).map (·.2) = [assign (.Subscript (.Name n p) (.Constant (.int (j : Int)) jj pc) ps) X.env] := by rfl) : WS cl X m r w (.Assign [.Subscript (.Name n p) (.Constant (.int (j : Int)) jj pc) ps] e pos) F := fun B s σ D hm st I C => by
  obtain ⟨v, e1, p0, e2, e3⟩ := I.sl.get hr
  subst e3
  refine ⟨_, ps_asg sE (pg_sub (pe_var hN hv hd hcd) pe_int set_list) hs hsw h1, h s σ I _ fun u s1 st1 ok1 r1 => ⟨_, e1, ?_⟩⟩
  have hps : s1.ps = s.ps := ps_same st1 I.ok ok1 rfl
  have e4 : s1.ps[nn]? = some (some p0) := by rw [hps]; exact e2
  obtain ⟨h0, vs, g1, g2⟩ := ok1.own_at e4 hw
  refine ⟨p0, vs, (j : Int), j, rfl, rfl, g1, ?_, ?_⟩
  · unfold ixN
    rw [if_pos (by omega), if_pos (by rw [g2.length]; omega), Int.toNat_natCast]
  · exact C.nx ⟨s1.H0, upd s1.H p0 (.lst (vs.set j u)), s1.ps⟩ σ r _ ((st.trans st1).own_set (st.e4 p0 (mem_ps e2))) ⟨ok1.own_set (u := .lst (ds.set j d)) e4 ⟨h0, _, upd_same, g2.set j r1⟩, (I.sl.step st1).heap⟩ k
theorem wp_pow {i j : Int} (ha : WP cl X r w a (.int i)) (hb : WP cl X r w b (.int j)) (h : CPow i j) : WP cl X r w (.BinOp a .Pow b pos) (.int (i ^ j.toNat)) := wp_bin op_pow ha hb (rv_I h fun _ => rfl)
/-- list(range(i, j)) -/
theorem wp_listRg (B : Bl X.mg) {i : Nat} {pr : Pos} (hc : X.calm = true) (ha : WP cl X r w a (eN 1)) (hb : WP cl X r w b (eN (i + 1))) (hi : i ≤ 1000) (hg : Gl X "list" := by rfl) (hgr : Gl X "range" := by rfl) {q1 q2 : Pos} (na : starEach [.Call (.Name "range" q1) [a, b] [] q2] X.env = (false, eval (.Call (.Name "range" q1) [a, b] [] q2) X.env) :: starEach [] X.env := by rfl)
    (n1 : starEach [a, b] X.env = (false, eval a X.env) :: starEach [b] X.env := by rfl) (n2 : starEach [b] X.env = (false, eval b X.env) :: starEach [] X.env := by rfl) (n3 : (backTo q2 (starEach [b] X.env)).any (·.1) = false := by rfl) : WP cl X r w (.Call (.Name "list" p) [.Call (.Name "range" q1) [a, b] [] q2] [] pos) (lNs (blocksOf i)) := fun s σ I Q q =>
  ⟨_, pe_listRg hc hg B.list (prg_2 hgr B.range sE sE n1 n2 n3) na, ha s σ I _ fun u s1 st1 ok1 r1 => hb s1 σ (I.step st1 ok1) _ fun v s2 st2 ok2 r2 => by
    obtain rfl : u = .int ((1 : Nat) : Int) := r1
    obtain rfl : v = .int ((i + 1 : Nat) : Int) := r2
    refine ⟨_, _, rfl, rfl, ⟨by omega, by omega, by omega, by omega, by omega⟩, fun p np => ?_⟩
    have e1 : rgV ((1 : Nat) : Int) ((i + 1 : Nat) : Int) = ((blocksOf i).map Int.ofNat).map V.int := by
      unfold rgV blocksOf
      rw [show (((i + 1 : Nat) : Int) - ((1 : Nat) : Int)).toNat = i by omega, List.map_map, List.map_map]
      apply List.map_congr_left
      intro j _
      show V.int _ = V.int _
      congr 1
      show ((1 : Nat) : Int) + (j : Int) = ((j + 1 : Nat) : Int)
      omega
    rw [e1]
    exact q _ (s2.add p _) ((st1.trans st2).trans (.add ok2.lk np)) (ok2.add np) ⟨p, _, rfl, upd_same, by rw [ints_of]; exact Rs.ints _⟩⟩

/-! ### drawn values in lists -/
theorem we_q {F1 : D → Prop} {F2 : Sl → List Ow → Prop} (h : WQ cl X r w e F1) (k : ∀ d, F1 d → F2 (.d d) w) : WE cl X r w e F2 := fun s σ I Q q => h s σ I _ fun v s' d st ok rv f => q v s' (.d d) w st ok ⟨v, rfl, rv⟩ (k d f)
/-- x.pop(e), x an owned list -/
theorem we_popAt (i : Nat) {apos cpos : Pos} {F2 : Sl → List Ow → Prop} (hr : r[i]? = some (.o nn)) (hw : w[nn]? = some (.lst ds)) (h : WQ cl X r w e fun x => ∃ j, x = eN j ∧ j < ds.length) (hz : ds.length < 100000) (k : ∀ j x, ds[j]? = some x → F2 (.d x) (w.set nn (.lst (ds.eraseIdx j)))) (hN : X.N[i]? = some n := by rfl) (hv : Vis X.env.scope n := by first | exact Or.inl rfl | exact Or.inr (Or.inl rfl) | exact Or.inr (Or.inr rfl))
    (hd : (n == ("__debug__" : Str)) = false := by decide) (hcd : (n == ("__classdict__" : Str)) = false := by decide)
    (hbase : attributeBase (.Name n p) "pop" X.env (eval (.Name n p) X.env) = eval (.Name n p) X.env := by rfl)
    (hfew : ((backTo cpos (starEach [e] X.env)).all (fun x => !x.1) && (backToKw cpos (keywordEach [] X.env)).all (fun x => x.1.isSome) && decide ([e].length + ([] : List Keyword).length + (if ([] : List Keyword).isEmpty then 0 else 1) < 30)) = true := by rfl)
    (hline : (apos.endLine == cpos.line) = true := by rfl) (hs : starEach [e] X.env = (false, eval e X.env) :: starEach [] X.env := by rfl) (hplain : (backTo cpos (starEach [] X.env)).any (·.1) = false := by rfl) :
    WE cl X r w (.Call (.Attribute (.Name n p) "pop" apos) [e] [] cpos) F2 := fun s σ I Q q => by
  obtain ⟨v, e1, p0, e2, e3⟩ := I.sl.get hr
  subst e3
  obtain ⟨h0, vs, hv', hrs⟩ := I.ok.own_at e2 hw
  refine ⟨_, pe_bm PySem.F.plainAttrs_list PySem.F.slot_list_pop PySem.F.type_list_pop mt_popAt (pe_var hN hv hd hcd) (pa_cons sE pa_nil hs) hbase hfew hline hs hplain, .ref p0, e1, .inl ⟨rfl, vs, .inl (.inl hv')⟩, h s σ I _ fun v s1 d st1 ok1 rv f => ?_⟩
  obtain ⟨j, rfl, hj⟩ := f
  obtain rfl : v = .int (j : Int) := rv
  have hps : s1.ps = s.ps := ps_same st1 I.ok ok1 rfl
  have e4 : s1.ps[nn]? = some (some p0) := by rw [hps]; exact e2
  obtain ⟨h0', vs', hv2, hrs2⟩ := ok1.own_at e4 hw
  obtain ⟨y, hy1, hy2⟩ := hrs2.get (List.getElem?_eq_getElem hj)
  have hjl : j < vs'.length := by rw [hrs2.length]; exact hj
  refine ⟨p0, vs', (j : Int), j, y, rfl, rfl, hv2, by omega, by omega, ?_, hy1, ?_⟩
  · unfold seqIndex?
    simp
    omega
  · exact q y ⟨s1.H0, upd s1.H p0 (.lst (vs'.eraseIdx j)), s1.ps⟩ (.d ds[j]) _ (st1.own_set (.inl (mem_ps e2))) (ok1.own_set (u := .lst (ds.eraseIdx j)) e4 ⟨h0', _, upd_same, hrs2.eraseIdx j⟩) ⟨y, rfl, hy2⟩ (k j _ (List.getElem?_eq_getElem hj))
/-- range(e), e drawn -/
theorem wiq_range {G : Nat → Prop} (B : Bl X.mg) (h : WQ cl X r w a fun x => ∃ j, x = eN j ∧ G j) (hG : ∀ j, G j → j ≤ 100000) (hg : Gl X "range" := by rfl) (hs : starEach [a] X.env = [(false, eval a X.env)] := by rfl) (s : Sta) (σ : L2.St) (I : Env X.K cl s σ r w) (Q : It → Hp → Prop) (k : ∀ J s' j, Step s s' → Ok X.K cl s' w → G j → ItD X.K cl J s' ((List.range j).map eN) → Q J s'.H) : tIr X tg (.Call (.Name "range" p) [a] [] pos) σ s.H Q :=
  ⟨_, pi_range1 hg B.range (pa_cons sE pa_nil (by rw [hs]; rfl)) hs, h s σ I _ fun v s1 d st1 ok1 rv f => by
    obtain ⟨j, rfl, hj⟩ := f
    obtain rfl : v = .int (j : Int) := rv
    have := hG j hj
    refine ⟨(j : Int), rfl, by omega, by omega, k _ s1 j st1 ok1 hj ?_⟩
    rw [Int.toNat_natCast, ← rng0]
    exact itd_rng⟩
/-- for tg in range(e), e drawn -/
theorem ws_forR {G : Nat → Prop} {body : List Stmt} (B : Bl X.mg) (hp : PassesOwn (model X.prog X.w) X.A X.env X.xe) (hc : X.calm = true) (h : WQ cl X r w a fun x => ∃ j, x = eN j ∧ G j) (hG : ∀ j, G j → j ≤ 100000) (P : Nat → List Sl → List Ow → Prop) (h0 : P 0 r w)
    (hs : ∀ i r1 w1, P i r1 w1 → ∃ r2 js, WG cl X r1 w1 tg (eN i) js r2 ∧ WSs cl X w.length r2 w1 body { nx := fun r3 w3 => ∃ r4, Sub r4 r3 ∧ P (i + 1) r4 w3, ct := fun r3 w3 => ∃ r4, Sub r4 r3 ∧ P (i + 1) r4 w3, bk := F.nx, rt := F.rt })
    (hd : ∀ j r1 w1, G j → P j r1 w1 → F.nx r1 w1) (hg : Gl X "range" := by rfl) (hst : starEach [a] X.env = [(false, eval a X.env)] := by rfl) {pr pc : Pos} (hfs : ∀ x, foldedSetIterable (.Call (.Name "range" pr) [a] [] pc) X.env x = pure x := by intro _; rfl) : WS cl X m r w (.For tg (.Call (.Name "range" pr) [a] [] pc) body [] pos) F := fun B0 s σ D hm st I C => by
  refine ⟨_, ps_for hp hc sI sG sSs hfs, wiq_range B h hG hg hst s σ I _ fun J s1 N st1 ok1 hN itd => ?_⟩
  have stB := st.trans st1
  have hlen : ((List.range N).map eN).length = N := by simp
  refine ⟨fun i k σ' H => k = N - i ∧ i ≤ N ∧ ∃ sx r1 w1, sx.H = H ∧ Step s1 sx ∧ Env X.K cl sx σ' r1 w1 ∧ P i r1 w1, ⟨N, by simp, Nat.zero_le _, s1, r, w, rfl, .refl _, I.step st1 ok1, h0⟩, ?_⟩
  rintro i k σ' H ⟨rfl, hi', sx, r1, w1, rfl, stx, Ix, hpp⟩
  by_cases hlt : i < N
  · have hx : ((List.range N).map eN)[i]? = some (eN i) := by
      rw [List.getElem?_map, List.getElem?_range hlt]
      rfl
    obtain ⟨go, yl⟩ := itd.item i _ sx stx Ix.ok.lk hx
    refine .inr ⟨go, fun σ2 H2 => ∃ sx r1 w1, sx.H = H2 ∧ Step s1 sx ∧ Env X.K cl sx σ2 r1 w1 ∧ P (i + 1) r1 w1, fun σ2 H2 ⟨sx, r1, w1, e, q⟩ => ⟨N - (i + 1), by omega, rfl, hlt, sx, r1, w1, e, q⟩, fun v H' y => ?_⟩
    obtain ⟨sy, rfl, sty, oky, rv⟩ := yl v H' y
    have Iy := Ix.step sty (oky _ Ix.ok)
    obtain ⟨r2, js, hgg, hb⟩ := hs i r1 w1 hpp
    refine hgg sy σ' v Iy rv _ fun σ2 k2 l2 c2 => ?_
    refine hb s1 sy σ2 _ ok1.len (stx.trans sty) ⟨Iy.ok, k2⟩ ⟨?_, ?_, ?_, ?_⟩
    · rintro s3 σ3 r3 w3 st3 I3 ⟨r4, q1, q2⟩
      exact ⟨s3, r4, w3, rfl, st3, I3.sub q1, q2⟩
    · exact fun s3 v3 x3 w3 st3 ok3 rv3 q => C.rt s3 v3 x3 w3 (stB.trans st3) ok3 rv3 q
    · exact fun s3 σ3 r3 w3 st3 I3 q => C.nx s3 σ3 r3 w3 (stB.trans st3) I3 q
    · rintro s3 σ3 r3 w3 st3 I3 ⟨r4, q1, q2⟩
      exact ⟨s3, r4, w3, rfl, st3, I3.sub q1, q2⟩
  · have e : i = N := by omega
    subst e
    have hst2 := itd.stop sx stx Ix.ok.lk
    rw [hlen] at hst2
    exact .inl ⟨hst2, C.nx sx σ' r1 w1 (stB.trans stx) Ix (hd _ r1 w1 hN hpp)⟩
/-- [e for tg in range(a)], all drawn -/
theorem wq_lcR {elt : Expr} {scope : Scope} {G : Nat → Prop} {T : D → Prop} {N : Nat} {ra : Nat → List Sl} {is : List Nat} {pr pc : Pos} (own : List (Str × Nat)) (B : Bl X.mg) (hc : X.calm = true) (hN : X.N.Nodup) (ok : BlkOk X.N X.env.scope scope own) (h : WQ cl X r w a fun x => ∃ j, x = eN j ∧ G j) (hG : ∀ j, G j → j ≤ N) (hz : N ≤ 100000) (his : ∀ i ∈ is, i ∈ own.map (·.2))
    (hg : ∀ j, InBlk X scope fun Y => WG cl Y (wipeR r (own.map (·.2))) w tg (eN j) is (ra j))
    (he : ∀ j, InBlk X scope fun Y => WQ cl Y (ra j) w elt T) (hgr : Gl X "range" := by rfl) (hst : starEach [a] X.env = [(false, eval a X.env)] := by rfl) (hs : ∀ x, foldedSetIterable (.Call (.Name "range" pr) [a] [] pc) X.env x = pure x := by intro _; rfl) :
    WQ cl X r w (.ListComp elt [⟨tg, .Call (.Name "range" pr) [a] [] pc, [], 0⟩] scope pos) (fun x => ∃ ys, x = .lst ys ∧ ys.length ≤ N ∧ ∀ y ∈ ys, T y) := fun s σ I Q q =>
  ⟨_, pe_lc hc hN sI ok suG suTs suE hs, wiq_range B h (fun j hj => Nat.le_trans (hG j hj) hz) hgr hst s σ I _ fun J s1 M st1 ok1 hM itd A nA =>
    lc_body (f := fun _ => true) (ra := ra) (is := is) s σ I J s1 st1 ok1 itd A nA (fun i w1 acc => w1 = w ∧ acc.length ≤ i ∧ ∀ y ∈ acc, T y) (by rw [List.length_range]; exact Nat.le_trans (hG M hM) hz) his ⟨rfl, Nat.zero_le _, fun y hy => absurd hy List.not_mem_nil⟩ (fun i w1 acc ⟨h1, h2, h3⟩ => ⟨by rw [h1], h2⟩)
      (fun x _ i w1 acc ⟨h1, _⟩ => by subst h1; exact hg x) (fun x _ i w1 acc _ _ _ _ _ _ => wts_nil)
      (fun x _ i w1 acc _ ⟨h1, h2, h3⟩ _ b1 b2 b3 b4 b5 => by
        subst h1
        exact we_q (he x b1 b2 b3 b4 b5) fun d hd => ⟨d, rfl, rfl, by rw [List.length_append, List.length_singleton]; omega, fun y hy => by
          rcases List.mem_append.mp hy with hy | hy
          · exact h3 y hy
          · have : y = d := by simpa using hy
            rw [this]
            exact hd⟩)
      (fun _ _ _ _ _ _ _ z => by cases z) Q (fun v s' w' ys st' ok' ⟨h1, h2, h3⟩ rv => by
        subst h1
        rw [List.length_range] at h2
        exact q v s' (.lst ys) st' ok' rv ⟨ys, rfl, Nat.le_trans h2 (hG M hM), h3⟩)⟩
theorem rs_pairs {H : Hp} : ∀ {l : List (Nat × Nat)} {vs : List V}, Rs cl H (l.map eP) vs → ∃ ks : List (Addr × List Int), vs = ks.map (fun q => V.ref q.1) ∧ (∀ q ∈ ks, H q.1 = some (.tup (q.2.map V.int))) ∧ ks.map (·.2) = l.map fun q => [(q.1 : Int), (q.2 : Int)]
  | [], vs, h => by
    obtain rfl : vs = [] := h
    exact ⟨[], rfl, fun q h => absurd h List.not_mem_nil, rfl⟩
  | q :: l, _, ⟨v, t, e, ⟨a, us, e2, h1, h2⟩, h3⟩ => by
    subst e e2
    have e3 : us = [(q.1 : Int), (q.2 : Int)].map V.int := Rs.ints_of (ns := [(q.1 : Int), (q.2 : Int)]) h2
    subst e3
    obtain ⟨ks, g1, g2, g3⟩ := rs_pairs h3
    refine ⟨(a, [(q.1 : Int), (q.2 : Int)]) :: ks, by rw [g1]; rfl, fun x hx => ?_, by rw [List.map_cons, g3]; rfl⟩
    rcases List.mem_cons.mp hx with rfl | hx
    · exact h1
    · exact g2 x hx
/-- sorted(set(e)), pairs -/
theorem wq_sortSet {T : Nat × Nat → Prop} {kk : Nat} {p3 p4 : Pos} (B : Bl X.mg) (hR : Room kk X.A) (hc : X.calm = true) (ha : WQ cl X r w a fun x => ∃ l : List (Nat × Nat), x = .lst (l.map eP) ∧ l.length < 64 ∧ ∀ q ∈ l, q.1 < 64 ∧ q.2 < 64 ∧ T q) (hg : Gl X "sorted" := by rfl) (hg2 : Gl X "set" := by rfl) (he : starEach [a] X.env = (false, eval a X.env) :: starEach [] X.env := by rfl) (he2 : starEach [.Call (.Name "set" p3) [a] [] p4] X.env = (false, eval (.Call (.Name "set" p3) [a] [] p4) X.env) :: starEach [] X.env := by rfl) (hpl : (backTo p4 (starEach [] X.env)).any (·.1) = false := by rfl) (hpl2 : (backTo pos (starEach [] X.env)).any (·.1) = false := by rfl) :
    WQ cl X r w (.Call (.Name "sorted" p) [.Call (.Name "set" p3) [a] [] p4] [] pos) (fun x => ∃ ys : List (Nat × Nat), x = .lst (ys.map eP) ∧ (ys.Pairwise fun a b => pLt a b = true) ∧ ys.length < 64 ∧ ∀ q ∈ ys, T q) := fun s σ I Q q => by
  refine ⟨_, pe_callB (cr_sortedT hc) hg B.sorted (by decide +kernel) (pa_cons (pe_callTy (cr_setOfT hc (room64 hR)) hg2 B.set (by decide +kernel) (pa_cons sE pa_nil he) (by decide) (by decide) he hpl) pa_nil he2) (by decide) (by decide) he2 hpl2, ha s σ I _ fun v s1 d st1 ok1 rv f => ?_⟩
  obtain ⟨l, rfl, h64, hl⟩ := f
  obtain ⟨a1, us, rfl, g1, g2⟩ := rv
  obtain ⟨ks, rfl, k2, k3⟩ := rs_pairs g2
  have klen : ks.length = l.length := by
    have := congrArg List.length k3
    rw [List.length_map, List.length_map] at this
    exact this
  have kq : ∀ x ∈ ks, ∃ q ∈ l, x.2 = [(q.1 : Int), (q.2 : Int)] := fun x hx => by
    have : x.2 ∈ ks.map (·.2) := List.mem_map.mpr ⟨x, hx, rfl⟩
    rw [k3] at this
    obtain ⟨q, h1, h2⟩ := List.mem_map.mp this
    exact ⟨q, h1, h2.symm⟩
  refine ⟨a1, ks, rfl, ok1.lk.sq g1, fun x hx => ok1.lk.st (k2 x hx), by omega, fun a2 L n2 L1 L2 => ?_⟩
  have ok2 := ok1.put (o := SetTO X.prog X.w a2 L) (ok1.fresh n2) (ok1.lk.nil n2)
  have st2 := (Step.refl s1).put (o := SetTO X.prog X.w a2 L) n2
  refine ⟨a2, L, 2, 64, rfl, upd_same, fun x hx => ok2.lk.st (k2 x (L1 x hx)), by omega, fun x hx => ?_, fun L' p' perm nd h64' pw np => ?_⟩
  · obtain ⟨q0, hq0, e0⟩ := kq x (L1 x hx)
    have := hl q0 hq0
    rw [e0]
    refine ⟨rfl, fun m hm => ?_⟩
    simp only [List.mem_cons, List.not_mem_nil, or_false] at hm
    rcases hm with rfl | rfl <;> omega
  · have back : ∀ x ∈ L', ∃ q ∈ l, x.2 = [(q.1 : Int), (q.2 : Int)] ∧ x ∈ ks := fun x hx => by
      have hx2 := L1 x (perm.mem_iff.mp hx)
      obtain ⟨q0, h1, h2⟩ := kq x hx2
      exact ⟨q0, h1, h2, hx2⟩
    let pr : Addr × List Int → Nat × Nat := fun x => ((x.2.getD 0 0).toNat, (x.2.getD 1 0).toNat)
    have prq : ∀ x ∈ L', pr x ∈ l ∧ x.2 = [((pr x).1 : Int), ((pr x).2 : Int)] := fun x hx => by
      obtain ⟨q0, h1, h2, _⟩ := back x hx
      have : pr x = q0 := by
        show ((x.2.getD 0 0).toNat, (x.2.getD 1 0).toNat) = q0
        rw [h2]
        rfl
      rw [this]
      exact ⟨h1, h2⟩
    have np2 : (⟨s1.H0, upd s1.H a2 (SetTO X.prog X.w a2 L), s1.ps⟩ : Sta).H p' = none := np
    have st3 := Step.add (o := .lst (L'.map fun q : Addr × List Int => V.ref q.1)) ok2.lk np2
    have ok3 := ok2.add (o := .lst (L'.map fun q : Addr × List Int => V.ref q.1)) np2
    have rows : ∀ (M : List (Addr × List Int)), (∀ x ∈ M, x ∈ L') → Rs cl (upd s1.H0 p' (.lst (L'.map fun q : Addr × List Int => V.ref q.1))) ((M.map pr).map eP) (M.map fun q : Addr × List Int => V.ref q.1) := by
      intro M
      induction M with
      | nil => exact fun _ => .nil
      | cons x M ih =>
        intro hM
        have hx := hM x List.mem_cons_self
        obtain ⟨q0, h1, h2, h3⟩ := back x hx
        have ht := k2 x h3
        rw [(prq x hx).2] at ht
        refine .cons ⟨x.1, _, rfl, ?_, Rs.ints [((pr x).1 : Int), ((pr x).2 : Int)]⟩ (ih fun y hy => hM y (List.mem_cons_of_mem _ hy))
        have hne : x.1 ≠ p' := ne_of_none ht (ok2.lk.nil np2)
        rw [upd_ne hne]
        exact ht
    refine q (.ref p') (Sta.add ⟨s1.H0, upd s1.H a2 (SetTO X.prog X.w a2 L), s1.ps⟩ p' (.lst (L'.map fun q : Addr × List Int => V.ref q.1))) (.lst ((L'.map pr).map eP)) ((st1.trans st2).trans st3) ok3 ⟨p', _, rfl, upd_same, rows L' fun x h => h⟩ ⟨L'.map pr, rfl, ?_, by rw [List.length_map]; exact h64', fun y hy => ?_⟩
    · rw [List.pairwise_map]
      have nd2 : L'.Pairwise fun a b => a.2 ≠ b.2 := by
        have := nd
        unfold List.Nodup at this
        rw [List.pairwise_map] at this
        exact this
      refine List.Pairwise.imp_of_mem ?_ (pw.and nd2)
      intro x y hx hy hxy
      obtain ⟨m1, e1⟩ := prq x hx
      obtain ⟨m2, e2⟩ := prq y hy
      have b1 := hl _ m1
      have b2 := hl _ m2
      have h1 := hxy.1
      have h2 := hxy.2
      rw [e1, e2] at h1 h2
      have := pair_lt h1 h2 ⟨by omega, by omega⟩ ⟨by omega, by omega⟩ ⟨by omega, by omega⟩ ⟨by omega, by omega⟩
      unfold pLt pLe
      rw [Bool.and_eq_true, Bool.or_eq_true]
      refine ⟨?_, ?_⟩
      · rcases this with h | ⟨h, h'⟩
        · exact .inl (decide_eq_true (by omega))
        · refine .inr ?_
          rw [Bool.and_eq_true]
          exact ⟨beq_iff_eq.mpr (by omega), decide_eq_true (by omega)⟩
      · have : pr x ≠ pr y := fun z => by
          rw [z] at this
          omega
        simpa using this
    · obtain ⟨x, hx, rfl⟩ := List.mem_map.mp hy
      exact (hl _ (prq x hx).1).2.2
theorem wss_cut {st : Stmt} (P : List Sl → List Ow → Prop) (h1 : WS cl X m r w st { F with nx := P }) (h2 : ∀ r1 w1, P r1 w1 → WSs cl X m r1 w1 sts F) : WSs cl X m r w (st :: sts) F := fun B s σ D hm st' I C =>
  ⟨_, pss_cons sS sSs, h1 B s σ _ hm st' I ⟨fun s1 σ1 r1 w1 st1 I1 k => h2 r1 w1 k B s1 σ1 D hm st1 I1 C, C.rt, C.bk, C.ct⟩⟩
/-- l[e], any list -/
theorem wq_ixD {xs : List D} (ha : WP cl X r w a (.lst xs)) (hb : WQ cl X r w b fun x => ∃ j, x = eN j ∧ j < xs.length) (hs : PlainIx b := by exact fun _ _ => rfl) : WQ cl X r w (.Subscript a b pos) (fun x => x ∈ xs) := fun s σ I Q q =>
  ⟨_, pe_ix ix_list sE sE hs, ha s σ I _ fun u s1 st1 ok1 r1 => hb s1 σ (I.step st1 ok1) _ fun v s2 d st2 ok2 r2 f => by
    obtain ⟨j, rfl, hj⟩ := f
    obtain rfl : v = .int (j : Int) := r2
    obtain ⟨p, us, rfl, h1, h2⟩ := r1.mono st2.e0
    obtain ⟨t, e1, e2⟩ := h2.atI (at_nat (List.getElem?_eq_getElem hj))
    exact ⟨p, us, _, t, rfl, rfl, ok2.lk.sq h1, e1, q t s2 _ (st1.trans st2) ok2 e2 (List.getElem_mem hj)⟩⟩
/-- name = list(e), to be changed -/
theorem ws_listO (i : Nat) {p' : Pos} (B : Bl X.mg) (hN : X.N.Nodup) (ha : WP cl X r w a (.lst ds)) (k : F.nx (r.set i (.o w.length)) (w ++ [.lst ds])) (hi : X.N[i]? = some n := by rfl) (hx : Loc X.env.scope n := by first | exact .inl rfl | exact .inr rfl) {pc : Pos} (hs : swapsWith (.Call (.Name "list" p) [a] [] pc) (some (.Name n p')) pos.line X.env = pure false := by rfl)
    (hf : X.fn n = true ∨ X.env.scope.names.lookup n = some .local := by first | exact .inl rfl | exact .inr rfl) (hg : Gl X "list" := by rfl) (he : starEach [a] X.env = (false, eval a X.env) :: starEach [] X.env := by rfl) (hpl : (backTo pc (starEach [] X.env)).any (·.1) = false := by rfl) : WS cl X m r w (.Assign [.Name n p'] (.Call (.Name "list" p) [a] [] pc) pos) F := fun B0 s σ D hm st I C =>
  ⟨_, ps_set hN hi hx (pe_callTy call_list_of hg B.list (by decide +kernel) (pa_cons sE pa_nil he) (by decide) (by decide) he hpl) hs hf, ha s σ I _ fun v s1 st1 ok1 rv => by
    obtain ⟨dd, us, rfl, h1, h2⟩ := rv
    refine ⟨dd, us, rfl, .inl (ok1.lk.sq h1), fun q nq => ?_⟩
    refine C.nx ⟨s1.H0, upd s1.H q (.lst us), s1.ps ++ [some q]⟩ _ _ _ ((st.trans st1).own_new nq) ⟨ok1.own_new (u := .lst ds) nq ⟨ok1.lk.nil nq, us, upd_same, h2⟩, ?_⟩ k
    refine (Rvs.grow (σ := σ) (I.sl.step st1) (List.prefix_append _ _)).set i ⟨q, ?_, rfl⟩
    show (s1.ps ++ [some q])[w.length]? = _
    rw [← ok1.len, List.getElem?_append_right (Nat.le_refl _), Nat.sub_self]
    rfl⟩
/-- return [e, ..], not shared -/
theorem ws_retNewL (h : WAp cl X r w es ds) (hl : ds.length ≤ 100000) (k : F.rt (.o w.length) (w ++ [.lst ds])) : WS cl X m r w (.Return (some (.List es p2)) pos) F := fun B s σ D hm st I C =>
  ⟨_, ps_ret (pe_lst sA), h s σ I _ fun vs s1 st1 ok1 rs => ⟨by rw [rs.length]; exact small hl, fun q nq => by
    refine C.rt ⟨s1.H0, upd s1.H q (.lst vs), s1.ps ++ [some q]⟩ _ (.o w.length) (w ++ [.lst ds]) ((st.trans st1).own_new nq) (ok1.own_new (u := .lst ds) nq ⟨ok1.lk.nil nq, vs, upd_same, rs⟩) ⟨q, ?_, rfl⟩ k
    show (s1.ps ++ [some q])[w.length]? = _
    rw [← ok1.len, List.getElem?_append_right (Nat.le_refl _), Nat.sub_self]
    rfl⟩⟩
/-- return x, an owned object, not shared -/
theorem ws_retOwn (i : Nat) (hr : r[i]? = some (.o nn)) (k : F.rt (.o nn) w) (hN : X.N[i]? = some n := by rfl) (hv : Vis X.env.scope n := by first | exact Or.inl rfl | exact Or.inr (Or.inl rfl))
    (hd : (n == ("__debug__" : Str)) = false := by decide) (hcd : (n == ("__classdict__" : Str)) = false := by decide) : WS cl X m r w (.Return (some (.Name n p)) pos) F := fun B s σ D hB st I C => by
  obtain ⟨v, e1, p0, e2, e3⟩ := I.sl.get hr
  subst e3
  exact ⟨_, ps_ret (pe_var hN hv hd hcd), .ref p0, e1, C.rt s _ (.o nn) w st I.ok ⟨p0, e2, rfl⟩ k⟩
/-- a list comprehension whose elements change what is owned -/
theorem we_lc {elt it : Expr} {scope : Scope} {α : Type} {xs : List α} {enc : α → D} {ra : α → List Sl} {is : List Nat} {F2 : Sl → List Ow → Prop} (own : List (Str × Nat)) (P : Nat → List Ow → List D → Prop) (hc : X.calm = true) (hN : X.N.Nodup) (ok : BlkOk X.N X.env.scope scope own) (hz : xs.length ≤ 100000) (hi : WI cl X r w tg it (xs.map enc)) (his : ∀ i ∈ is, i ∈ own.map (·.2)) (h0 : P 0 w []) (hw : ∀ i w1 acc, P i w1 acc → w1.length = w.length ∧ acc.length ≤ i)
    (hg : ∀ x ∈ xs, ∀ i w1 acc, P i w1 acc → InBlk X scope fun Y => WG cl Y (wipeR r (own.map (·.2))) w1 tg (enc x) is (ra x))
    (he : ∀ x ∈ xs, ∀ i w1 acc, xs[i]? = some x → P i w1 acc → InBlk X scope fun Y => WE cl Y (ra x) w1 elt fun z w2 => ∃ y, z = .d y ∧ P (i + 1) w2 (acc ++ [y]))
    (k : ∀ w1 acc, P xs.length w1 acc → F2 (.d (.lst acc)) w1) (hs : ∀ x, foldedSetIterable it X.env x = pure x := by intro _; rfl) : WE cl X r w (.ListComp elt [⟨tg, it, [], 0⟩] scope pos) F2 := fun s σ I Q q =>
  ⟨_, pe_lc hc hN sI ok suG suTs suE hs, lc_read (f := fun _ => true) P hz hi his h0 hw hg (fun _ _ _ _ _ _ _ _ _ _ _ => wts_nil) (fun x hx i w1 acc e hp _ => he x hx i w1 acc e hp) (fun _ _ _ _ _ _ _ z => by cases z) s σ I Q fun v s' w' ys st' ok' hp rv => q v s' (.d (.lst ys)) w' st' ok' ⟨v, rfl, rv⟩ (k w' ys hp)⟩
end
/-! ### defs that hand out what they own -/
def spO (K : PySem.W.Frag) (cl : Nat → Addr) (pre : List D → Prop) (post : List D → Ow → Prop) : Sp := fun vs H Q _ => ∃ (s : Sta) (ds : List D), s.H = H ∧ s.ps = [] ∧ Lk s.H0 s.H ∧ Rs cl s.H0 ds vs ∧ pre ds ∧
  ∀ p s' u, Step s s' → s'.ps = [some p] → post ds u → Ok K cl s' [u] → Q (.ref p) s'.H
section
variable {P : Program} {W : World} {K : PySem.W.Frag} {mg : Str → Option Value} {base : Heap} {cl : Nat → Addr} {name qual : Str} {params : Arguments} {body : List Stmt} {scope : Scope} {f : Addr} {fd : FuncData} {N ps : List Str} {k : Nat} {pre : List D → Prop} {post : List D → Ow → Prop}
theorem fn_own (F : FunD K name qual params body scope [] [] f fd) (S : FnScope N ps scope) (hl : ∀ ds, pre ds → ds.length = ps.length) 
    (hb : ∀ cdv A outer s H E, Room k (Xd P W K mg base N qual scope f cdv A outer s H E).A → ∀ ds, pre ds →
      WSs cl (Xd P W K mg base N qual scope f cdv A outer s H E) 0 (ds.map Sl.d ++ List.replicate (N.length - ds.length) .u) [] body { nx := fun _ _ => False, rt := fun x w => x = .o 0 ∧ ∃ u, w = [u] ∧ post ds u }) : FnOk P W K mg base CX0 (k + 1) f fd ps (spO K cl pre post) := by
  refine F.ok S (fun vs H Q E h => ?_) (fun cdv A outer s H vs Q E hr h => ?_)
  · obtain ⟨s, ds, _, _, _, rs, hp, _⟩ := h
    rw [rs.length]
    exact hl ds hp
  · obtain ⟨s0, ds, rfl, hps, lk, rs, hp, q⟩ := h
    have key := hb cdv A outer s s0.H E hr ds hp
    refine ⟨_, PSs.nox sSs, ?_⟩
    refine key s0 s0 (L2.start N vs) _ (by rw [hps]; rfl) (.refl s0) ⟨Ok.none hps lk, ?_⟩ ⟨?_, ?_, ?_, ?_⟩
    · unfold L2.start
      rw [rs.length]
      exact (Rvs.ds rs).append (Rvs.us _ _)
    · exact fun _ _ _ _ _ _ h => h.elim
    · intro s1 v x1 w1 st1 ok1 rv e
      obtain ⟨rfl, u, rfl, hu⟩ := e
      obtain ⟨p0, e1, e2⟩ := rv
      cases e2
      refine q p0 s1 u st1 ?_ hu ok1
      have hl1 := ok1.len
      apply List.ext_getElem?
      intro i
      cases i with
      | zero => exact e1
      | succ i =>
        have : s1.ps.length = 1 := hl1
        rw [List.getElem?_eq_none (by omega)]
        rfl
    · exact fun _ _ _ _ _ _ h => h.elim
    · exact fun _ _ _ _ _ _ h => h.elim
end
section
variable {cl : Nat → Addr} {X : Cx} {r : List Sl} {w : List Ow} {e a b c tg : Expr} {pos p p2 : Pos} {n : Str} {es : List Expr} {k m : Nat} {F : Ph}
/-- name = f(e, ..), the value owned from now on -/
theorem ws_setO {nf : Str} (i : Nat) {k' : Nat} {G : List D → Prop} {pre : List D → Prop} {post : List D → Ow → Prop} {ps : List Str} {CX : CXT} {p' pc : Pos} (hNd : X.N.Nodup) (Fc : Cal X.prog X.w X.K X.mg X.base CX k nf ps (spO X.K cl pre post)) (hr : Room k' X.A) (hk : k ≤ k') (ha : WAq cl X r w (e :: es) G) (hp : ∀ ds, G ds → pre ds ∧ ∀ u, post ds u → F.nx (r.set i (.o w.length)) (w ++ [u])) {E : XK} (hx : Passes CX X E) (hi : X.N[i]? = some n := by rfl) (hxl : Loc X.env.scope n := by first | exact .inl rfl | exact .inr rfl) (hs : swapsWith (.Call (.Name nf p) (e :: es) [] pc) (some (.Name n p')) pos.line X.env = pure false := by rfl)
    (hf : X.fn n = true ∨ X.env.scope.names.lookup n = some .local := by first | exact .inl rfl | exact .inr rfl) (hg : Gl X nf := by rfl) (hdb : (nf == ("__debug__" : Str)) = false := by decide)
    (he : starEach (e :: es) X.env = (false, eval e X.env) :: starEach es X.env := by rfl) (hpl : (backTo pc (starEach es X.env)).any (·.1) = false := by rfl) : WS cl X m r w (.Assign [.Name n p'] (.Call (.Name nf p) (e :: es) [] pc) pos) F := fun B s σ D hm st I C => by
  obtain ⟨f, fd, Fo, hmg, hkp, hb⟩ := Fc
  refine ⟨_, ps_set hNd hi hxl (pe_call Fo (hr.mono hk) hg hmg hkp hb .nil hx sA hdb he hpl) hs hf, ha s σ I _ fun vs s1 ds st1 ok1 rs g => ?_⟩
  obtain ⟨h1, h2⟩ := hp ds g
  rw [List.append_nil]
  refine ⟨⟨s1.H0, s1.H, []⟩, ds, rfl, rfl, ok1.lk, rs, h1, fun p0 s2 u st2 hps2 hu ok2 => ?_⟩
  have keep : ∀ x o, s1.H x = some o → s2.H x = some o := fun x o h => st2.e1 x o h (by simp)
  have new : s1.H p0 = none := by
    rcases st2.e4 p0 (by rw [hps2]; simp) with z | z
    · cases z
    · exact z
  have stZ : Step s1 ⟨s2.H0, s2.H, s1.ps ++ [some p0]⟩ := ⟨st2.e0, fun x o h _ => keep x o h, st2.e2, List.prefix_append _ _, fun q hq => by
    have hq : some q ∈ s1.ps ++ [some p0] := hq
    rcases List.mem_append.mp hq with z | z
    · exact .inl z
    · have : q = p0 := by simpa using z
      exact .inr (by rw [this]; exact new), fun q _ h => by
    obtain ⟨o, ho⟩ := Option.isSome_iff_exists.mp h
    show (s2.H q).isSome = true
    rw [keep q o ho]
    rfl⟩
  have okZ : Ok X.K cl ⟨s2.H0, s2.H, s1.ps ++ [some p0]⟩ (w ++ [u]) := by
    refine ⟨ok2.lk, fun i j q e1 e2 => ?_, ?_, fun n q v e1 e2 => ?_, tb_app ok1.tb ok1.len fun p q e => by
      subst e
      have := ok2.tb 0 p q rfl
      rw [hps2] at this
      simpa using this⟩
    · have f1 : (s1.ps ++ [some p0])[i]? = some (some q) := e1
      have f2 : (s1.ps ++ [some p0])[j]? = some (some q) := e2
      clear e1 e2
      rw [List.getElem?_append] at f1 f2
      have nq : ∀ {i : Nat}, s1.ps[i]? = some (some p0) → False := fun z => by
        have := (ok1.own (mem_ps z)).2
        rw [new] at this
        cases this
      have one : ∀ {i : Nat} {q : Addr}, ([some p0] : List (Option Addr))[i]? = some (some q) → i = 0 ∧ q = p0 := fun {i q} e => by
        have h1 := (List.getElem?_eq_some_iff.mp e).1
        simp only [List.length_singleton] at h1
        have : i = 0 := by omega
        subst this
        simp only [List.getElem?_cons_zero, Option.some.injEq] at e
        exact ⟨rfl, e.symm⟩
      by_cases a : i < s1.ps.length <;> by_cases b : j < s1.ps.length
      · rw [if_pos a] at f1
        rw [if_pos b] at f2
        exact ok1.nd i j q f1 f2
      · rw [if_pos a] at f1
        rw [if_neg b] at f2
        rw [(one f2).2] at f1
        exact (nq f1).elim
      · rw [if_neg a] at f1
        rw [if_pos b] at f2
        rw [(one f1).2] at f2
        exact (nq f2).elim
      · rw [if_neg a] at f1
        rw [if_neg b] at f2
        have := (one f1).1
        have := (one f2).1
        omega
    · show (s1.ps ++ [some p0]).length = _
      rw [List.length_append, List.length_append, ok1.len]
      rfl
    · have e1 : (s1.ps ++ [some p0])[n]? = some (some q) := e1
      rw [List.getElem?_append] at e1 e2
      rw [ok1.len] at e1
      by_cases a : n < w.length
      · rw [if_pos a] at e1 e2
        obtain ⟨l1, l2⟩ := ok1.own (mem_ps e1)
        obtain ⟨o, ho⟩ := Option.isSome_iff_exists.mp l2
        refine (ok1.ow n q v e1 e2).ext st2.e0 (fun z => ?_) ((keep q o ho).trans ho.symm)
        show s2.H0 q = none
        cases hh : s2.H0 q with
        | none => rfl
        | some o2 =>
          rcases st2.e2 q o2 hh with a | a
          · have a : s1.H0 q = some o2 := a
            rw [z] at a
            cases a
          · have a : s1.H q = none := a
            rw [ho] at a
            cases a
      · rw [if_neg a] at e1 e2
        have h1 := (List.getElem?_eq_some_iff.mp e1).1
        simp only [List.length_singleton] at h1
        have h0 : n - w.length = 0 := by omega
        rw [h0] at e1 e2
        simp only [List.getElem?_cons_zero, Option.some.injEq] at e1 e2
        subst e1 e2
        exact ok2.ow 0 p0 u (by rw [hps2]; rfl) rfl
  refine C.nx ⟨s2.H0, s2.H, s1.ps ++ [some p0]⟩ _ _ _ ((st.trans st1).trans stZ) ⟨okZ, ?_⟩ (h2 u hu)
  refine ((I.sl.step st1).step stZ).set i ⟨p0, ?_, rfl⟩
  show (s1.ps ++ [some p0])[w.length]? = _
  rw [← ok1.len, List.getElem?_append_right (Nat.le_refl _), Nat.sub_self]
  rfl
end

/-! ### many promises of one def -/
def spJ {ι : Type} (K : PySem.W.Frag) (cl : Nat → Addr) (ds0 : ι → List D) (c : ι → Prop) (v : ι → D) : Sp := fun vs H Q E => ∃ i, PX K cl (ds0 i) (c i) (v i) vs H Q E
section
variable {P : Program} {W : World} {K : PySem.W.Frag} {mg : Str → Option Value} {base : Heap} {cl : Nat → Addr} {f : Addr} {fd : FuncData} {ps : List Str} {k : Nat} {CX : CXT} {ι : Type} {ds0 : ι → List D} {c : ι → Prop} {v : ι → D} {n : Str}
theorem fn_join (h : ∀ i, FnOk P W K mg base CX k f fd ps (PX K cl (ds0 i) (c i) (v i))) : FnOk P W K mg base CX k f fd ps (spJ K cl ds0 c v) :=
  ⟨fun vs H Q E ⟨i, q⟩ => (h i).len vs H Q E q, fun A outer s H args us vs Q E hr he hb hv ⟨i, q⟩ => (h i).run A outer s H args us vs Q E hr he hb hv q⟩
theorem cal_one (C : Cal P W K mg base CX k n ps (spJ K cl ds0 c v)) (i : ι) : Cal P W K mg base CX k n ps (PX K cl (ds0 i) (c i) (v i)) := by
  obtain ⟨f, fd, h1, h2⟩ := C
  exact ⟨f, fd, h1.imp fun vs H Q E q => ⟨i, q⟩, h2⟩
end
section
variable {cl : Nat → Addr} {X : Cx} {r : List Sl} {w : List Ow} {e : Expr} {pos p : Pos} {n : Str} {es : List Expr} {k : Nat} {F : D → Prop}
theorem wq_fnJ {ι : Type} {k' : Nat} {G : List D → Prop} {ds0 : ι → List D} {c : ι → Prop} {v : ι → D} {ps : List Str} {CX : CXT} (Fc : Cal X.prog X.w X.K X.mg X.base CX k n ps (spJ X.K cl ds0 c v)) (hr : Room k' X.A) (hk : k ≤ k') (ha : WAq cl X r w (e :: es) G) (hp : ∀ ds, G ds → ∃ i, ds = ds0 i ∧ c i ∧ F (v i)) {E : XK} (hx : Passes CX X E) (hg : Gl X n := by rfl) (hdb : (n == ("__debug__" : Str)) = false := by decide)
    (he : starEach (e :: es) X.env = (false, eval e X.env) :: starEach es X.env := by rfl) (hpl : (backTo pos (starEach es X.env)).any (·.1) = false := by rfl) : WQ cl X r w (.Call (.Name n p) (e :: es) [] pos) F := fun s σ I Q q => by
  obtain ⟨f, fd, Fo, hm, hkp, hb⟩ := Fc
  exact ⟨_, pe_call Fo (hr.mono hk) hg hm hkp hb .nil hx sA hdb he hpl, ha s σ I _ fun vs s1 ds st ok rs g => by
    rw [List.append_nil]
    obtain ⟨i, rfl, h1, h2⟩ := hp ds g
    exact ⟨i, call_pure s1 ok rs ⟨rfl, h1⟩ fun v s2 st2 ok2 rv => q v s2 _ (st.trans st2) ok2 rv h2⟩⟩
end
end FV
set_option Elab.async false
set_option linter.all false
set_option maxRecDepth 100000
/-! The text by places. -/
namespace FV
open PySem PySem.Spec PyProof.Rows L2
def topS (i : Nat) : Stmt := PySem.Challenge.pw_foldervotes_k21_whole_nearest_trees_by_a.main.body.getD i (.Pass ⟨0, 0, 0, 0⟩)
abbrev s_TooMany_init : Stmt := inClass (topS 7) 0
abbrev N_TooMany_init : List Str := ["self", "most"]
theorem sc_TooMany_init : FnScope N_TooMany_init ["self", "most"] (defScope s_TooMany_init) := ⟨rfl, rfl, rfl, by decide +kernel, rfl, by decide +kernel, by decide +kernel⟩
abbrev s_is_integer : Stmt := topS 11
abbrev N_is_integer : List Str := ["thing"]
theorem sc_is_integer : FnScope N_is_integer ["thing"] (defScope s_is_integer) := ⟨rfl, rfl, rfl, by decide +kernel, rfl, by decide +kernel, by decide +kernel⟩
abbrev s_is_within : Stmt := topS 12
abbrev N_is_within : List Str := ["thing", "least", "most"]
theorem sc_is_within : FnScope N_is_within ["thing", "least", "most"] (defScope s_is_within) := ⟨rfl, rfl, rfl, by decide +kernel, rfl, by decide +kernel, by decide +kernel⟩
abbrev s_is_pair : Stmt := topS 13
abbrev N_is_pair : List Str := ["thing"]
theorem sc_is_pair : FnScope N_is_pair ["thing"] (defScope s_is_pair) := ⟨rfl, rfl, rfl, by decide +kernel, rfl, by decide +kernel, by decide +kernel⟩
abbrev s_is_ascending : Stmt := topS 14
abbrev N_is_ascending : List Str := ["items", "one", "other"]
theorem sc_is_ascending : FnScope N_is_ascending ["items"] (defScope s_is_ascending) := ⟨rfl, rfl, rfl, by decide +kernel, rfl, by decide +kernel, by decide +kernel⟩
abbrev s_is_view : Stmt := topS 15
abbrev N_is_view : List Str := ["thing", "item"]
theorem sc_is_view : FnScope N_is_view ["thing"] (defScope s_is_view) := ⟨rfl, rfl, rfl, by decide +kernel, rfl, by decide +kernel, by decide +kernel⟩
abbrev s_leads_home : Stmt := topS 18
abbrev N_leads_home : List Str := ["hung", "block", "here", "turn"]
theorem sc_leads_home : FnScope N_leads_home ["hung", "block"] (defScope s_leads_home) := ⟨rfl, rfl, rfl, by decide +kernel, rfl, by decide +kernel, by decide +kernel⟩
abbrev s_Tree_init : Stmt := inClass (topS 19) 0
abbrev N_Tree_init : List Str := ["self", "hung", "block"]
theorem sc_Tree_init : FnScope N_Tree_init ["self", "hung"] (defScope s_Tree_init) := ⟨rfl, rfl, rfl, by decide +kernel, rfl, by decide +kernel, by decide +kernel⟩
abbrev s_parents_in : Stmt := topS 20
abbrev N_parents_in : List Str := ["hung", "place", "found", "here"]
theorem sc_parents_in : FnScope N_parents_in ["hung", "place"] (defScope s_parents_in) := ⟨rfl, rfl, rfl, by decide +kernel, rfl, by decide +kernel, by decide +kernel⟩
abbrev s_hanging : Stmt := topS 21
abbrev N_hanging : List Str := ["hung", "place", "block"]
theorem sc_hanging : FnScope N_hanging ["hung", "place"] (defScope s_hanging) := ⟨rfl, rfl, rfl, by decide +kernel, rfl, by decide +kernel, by decide +kernel⟩
abbrev s_ties_down : Stmt := topS 23
abbrev N_ties_down : List Str := ["hung", "place", "steps", "found", "layer", "step", "later", "here", "block"]
theorem sc_ties_down : FnScope N_ties_down ["hung", "place", "steps"] (defScope s_ties_down) := ⟨rfl, rfl, rfl, by decide +kernel, rfl, by decide +kernel, by decide +kernel⟩
abbrev s_raw_telling : Stmt := topS 24
abbrev N_raw_telling : List Str := ["hung", "view", "place"]
theorem sc_raw_telling : FnScope N_raw_telling ["hung", "view", "place"] (defScope s_raw_telling) := ⟨rfl, rfl, rfl, by decide +kernel, rfl, by decide +kernel, by decide +kernel⟩
abbrev s_raw_distance : Stmt := topS 25
abbrev N_raw_distance : List Str := ["view", "up", "down", "more"]
theorem sc_raw_distance : FnScope N_raw_distance ["view"] (defScope s_raw_distance) := ⟨rfl, rfl, rfl, by decide +kernel, rfl, by decide +kernel, by decide +kernel⟩
abbrev s_is_tie : Stmt := topS 27
abbrev N_is_tie : List Str := ["blocks", "thing"]
theorem sc_is_tie : FnScope N_is_tie ["blocks", "thing"] (defScope s_is_tie) := ⟨rfl, rfl, rfl, by decide +kernel, rfl, by decide +kernel, by decide +kernel⟩
abbrev s_has_form : Stmt := topS 28
abbrev N_has_form : List Str := ["view", "blocks", "place", "thing", "row", "ties", "most", "item"]
theorem sc_has_form : FnScope N_has_form ["view", "blocks", "place", "thing"] (defScope s_has_form) := ⟨rfl, rfl, rfl, by decide +kernel, rfl, by decide +kernel, by decide +kernel⟩
abbrev s_Picture_init : Stmt := inClass (topS 29) 0
abbrev N_Picture_init : List Str := ["self", "view", "blocks", "told", "place"]
theorem sc_Picture_init : FnScope N_Picture_init ["self", "view", "blocks", "told"] (defScope s_Picture_init) := ⟨rfl, rfl, rfl, by decide +kernel, rfl, by decide +kernel, by decide +kernel⟩
abbrev s_without : Stmt := topS 30
abbrev N_without : List Str := ["picture", "blocks", "kept", "place"]
theorem sc_without : FnScope N_without ["picture", "blocks"] (defScope s_without) := ⟨rfl, rfl, rfl, by decide +kernel, rfl, by decide +kernel, by decide +kernel⟩
abbrev s_does_fit : Stmt := topS 31
abbrev N_does_fit : List Str := ["picture", "hung", "place"]
theorem sc_does_fit : FnScope N_does_fit ["picture", "hung"] (defScope s_does_fit) := ⟨rfl, rfl, rfl, by decide +kernel, rfl, by decide +kernel, by decide +kernel⟩
abbrev s_told_ties : Stmt := topS 33
abbrev N_told_ties : List Str := ["picture", "found", "place", "row", "ties", "block", "here"]
theorem sc_told_ties : FnScope N_told_ties ["picture"] (defScope s_told_ties) := ⟨rfl, rfl, rfl, by decide +kernel, rfl, by decide +kernel, by decide +kernel⟩
abbrev s_ties_known : Stmt := topS 34
abbrev N_ties_known : List Str := ["picture", "found", "block", "place"]
theorem sc_ties_known : FnScope N_ties_known ["picture"] (defScope s_ties_known) := ⟨rfl, rfl, rfl, by decide +kernel, rfl, by decide +kernel, by decide +kernel⟩
abbrev s_way_up : Stmt := topS 35
abbrev N_way_up : List Str := ["ties", "place", "most", "found"]
theorem sc_way_up : FnScope N_way_up ["ties", "place", "most"] (defScope s_way_up) := ⟨rfl, rfl, rfl, by decide +kernel, rfl, by decide +kernel, by decide +kernel⟩
abbrev s_Laid_init : Stmt := inClass (topS 36) 0
abbrev N_Laid_init : List Str := ["self", "picture", "ties", "ways", "place", "way", "top", "down", "places", "here"]
theorem sc_Laid_init : FnScope N_Laid_init ["self", "picture", "ties", "ways"] (defScope s_Laid_init) := ⟨rfl, rfl, rfl, by decide +kernel, rfl, by decide +kernel, by decide +kernel⟩
abbrev s_Laid_many : Stmt := inClass (topS 36) 1
abbrev N_Laid_many : List Str := ["self", "found", "top"]
theorem sc_Laid_many : FnScope N_Laid_many ["self"] (defScope s_Laid_many) := ⟨rfl, rfl, rfl, by decide +kernel, rfl, by decide +kernel, by decide +kernel⟩
abbrev s_Laid_hung_by : Stmt := inClass (topS 36) 2
abbrev N_Laid_hung_by : List Str := ["self", "notes", "found", "left", "step", "place", "held", "later", "top", "one", "block"]
theorem sc_Laid_hung_by : FnScope N_Laid_hung_by ["self", "notes"] (defScope s_Laid_hung_by) := ⟨rfl, rfl, rfl, by decide +kernel, rfl, by decide +kernel, by decide +kernel⟩
abbrev s_Laid_digits : Stmt := inClass (topS 36) 4
abbrev N_Laid_digits : List Str := ["self", "pieces"]
theorem sc_Laid_digits : FnScope N_Laid_digits ["self"] (defScope s_Laid_digits) := ⟨rfl, rfl, rfl, by decide +kernel, rfl, by decide +kernel, by decide +kernel⟩
abbrev s_laid_or_none : Stmt := topS 37
abbrev N_laid_or_none : List Str := ["picture", "ties", "ways", "place", "found", "first", "lot"]
theorem sc_laid_or_none : FnScope N_laid_or_none ["picture"] (defScope s_laid_or_none) := ⟨rfl, rfl, rfl, by decide +kernel, rfl, by decide +kernel, by decide +kernel⟩
abbrev s_raw_tree_at : Stmt := topS 38
abbrev N_raw_tree_at : List Str := ["found", "number", "notes", "lot"]
theorem sc_raw_tree_at : FnScope N_raw_tree_at ["found", "number"] (defScope s_raw_tree_at) := ⟨rfl, rfl, rfl, by decide +kernel, rfl, by decide +kernel, by decide +kernel⟩
abbrev s_told_blocks : Stmt := topS 42
abbrev N_told_blocks : List Str := ["picture", "place"]
theorem sc_told_blocks : FnScope N_told_blocks ["picture"] (defScope s_told_blocks) := ⟨rfl, rfl, rfl, by decide +kernel, rfl, by decide +kernel, by decide +kernel⟩
abbrev s_tells : Stmt := topS 43
abbrev N_tells : List Str := ["picture", "tree", "place"]
theorem sc_tells : FnScope N_tells ["picture", "tree", "place"] (defScope s_tells) := ⟨rfl, rfl, rfl, by decide +kernel, rfl, by decide +kernel, by decide +kernel⟩
abbrev s_wrong : Stmt := topS 44
abbrev N_wrong : List Str := ["picture", "tree", "block"]
theorem sc_wrong : FnScope N_wrong ["picture", "tree"] (defScope s_wrong) := ⟨rfl, rfl, rfl, by decide +kernel, rfl, by decide +kernel, by decide +kernel⟩
abbrev s_lots_of : Stmt := topS 45
abbrev N_lots_of : List Str := ["things", "many", "found", "turn", "lot", "thing"]
theorem sc_lots_of : FnScope N_lots_of ["things", "many"] (defScope s_lots_of) := ⟨rfl, rfl, rfl, by decide +kernel, rfl, by decide +kernel, by decide +kernel⟩
abbrev s_laid_without : Stmt := topS 46
abbrev N_laid_without : List Str := ["picture", "many", "found", "lot", "one"]
theorem sc_laid_without : FnScope N_laid_without ["picture", "many"] (defScope s_laid_without) := ⟨rfl, rfl, rfl, by decide +kernel, rfl, by decide +kernel, by decide +kernel⟩
abbrev s_mended : Stmt := topS 47
abbrev N_mended : List Str := ["picture", "blocks", "room", "many", "found"]
theorem sc_mended : FnScope N_mended ["picture"] (defScope s_mended) := ⟨rfl, rfl, rfl, by decide +kernel, rfl, by decide +kernel, by decide +kernel⟩
abbrev s_nearest_laid : Stmt := topS 48
abbrev N_nearest_laid : List Str := ["picture", "many", "found", "one"]
theorem sc_nearest_laid : FnScope N_nearest_laid ["picture"] (defScope s_nearest_laid) := ⟨rfl, rfl, rfl, by decide +kernel, rfl, by decide +kernel, by decide +kernel⟩
abbrev s_nearest : Stmt := topS 49
abbrev N_nearest : List Str := ["picture", "found", "one", "number", "hung"]
theorem sc_nearest : FnScope N_nearest ["picture"] (defScope s_nearest) := ⟨rfl, rfl, rfl, by decide +kernel, rfl, by decide +kernel, by decide +kernel⟩
abbrev s_least_wrong : Stmt := topS 50
abbrev N_least_wrong : List Str := ["picture"]
theorem sc_least_wrong : FnScope N_least_wrong ["picture"] (defScope s_least_wrong) := ⟨rfl, rfl, rfl, by decide +kernel, rfl, by decide +kernel, by decide +kernel⟩
abbrev s_l_tape : Stmt := topS 52
abbrev N_l_tape : List Str := ["_law_script"]
theorem sc_l_tape : FnScope N_l_tape ["_law_script"] (defScope s_l_tape) := ⟨rfl, rfl, rfl, by decide +kernel, rfl, by decide +kernel, by decide +kernel⟩
abbrev s_l_pick : Stmt := topS 53
abbrev N_l_pick : List Str := ["_law_tape_here", "_law_many", "_law_digit", "_law_cell", "_law_mixed_here"]
theorem sc_l_pick : FnScope N_l_pick ["_law_tape_here", "_law_many"] (defScope s_l_pick) := ⟨rfl, rfl, rfl, by decide +kernel, rfl, by decide +kernel, by decide +kernel⟩
abbrev s_l_any : Stmt := topS 54
abbrev N_l_any : List Str := ["_law_tape_here", "_law_things"]
theorem sc_l_any : FnScope N_l_any ["_law_tape_here", "_law_things"] (defScope s_l_any) := ⟨rfl, rfl, rfl, by decide +kernel, rfl, by decide +kernel, by decide +kernel⟩
abbrev s_l_mixed : Stmt := topS 55
abbrev N_l_mixed : List Str := ["_law_tape_here", "_law_things", "_law_left", "_law_at"]
theorem sc_l_mixed : FnScope N_l_mixed ["_law_tape_here", "_law_things"] (defScope s_l_mixed) := ⟨rfl, rfl, rfl, by decide +kernel, rfl, by decide +kernel, by decide +kernel⟩
abbrev s_l_trees : Stmt := topS 56
abbrev N_l_trees : List Str := ["_law_blocks", "_law_rows", "_law_block", "_law_longer", "_law_row", "_law_place"]
theorem sc_l_trees : FnScope N_l_trees ["_law_blocks"] (defScope s_l_trees) := ⟨rfl, rfl, rfl, by decide +kernel, rfl, by decide +kernel, by decide +kernel⟩
abbrev s_l_goes_home : Stmt := topS 57
abbrev N_l_goes_home : List Str := ["_law_hung", "_law_block", "_law_here", "_law_turn"]
theorem sc_l_goes_home : FnScope N_l_goes_home ["_law_hung"] (defScope s_l_goes_home) := ⟨rfl, rfl, rfl, by decide +kernel, rfl, by decide +kernel, by decide +kernel⟩
abbrev s_l_telling : Stmt := topS 58
abbrev N_l_telling : List Str := ["_law_hung", "_law_view", "_law_place", "_law_row", "_law_here", "_law_step", "_law_ties", "_law_layer", "_law_later", "_law_block"]
theorem sc_l_telling : FnScope N_l_telling ["_law_hung", "_law_view", "_law_place"] (defScope s_l_telling) := ⟨rfl, rfl, rfl, by decide +kernel, rfl, by decide +kernel, by decide +kernel⟩
abbrev s_l_told : Stmt := topS 59
abbrev N_l_told : List Str := ["_law_hung", "_law_view", "_law_lost", "_law_found", "_law_place"]
theorem sc_l_told : FnScope N_l_told ["_law_hung", "_law_view", "_law_lost"] (defScope s_l_told) := ⟨rfl, rfl, rfl, by decide +kernel, rfl, by decide +kernel, by decide +kernel⟩
abbrev s_l_lot : Stmt := topS 60
abbrev N_l_lot : List Str := ["_law_tape_here", "_law_things", "_law_many"]
theorem sc_l_lot : FnScope N_l_lot ["_law_tape_here", "_law_things", "_law_many"] (defScope s_l_lot) := ⟨rfl, rfl, rfl, by decide +kernel, rfl, by decide +kernel, by decide +kernel⟩
abbrev s_l_other : Stmt := topS 61
abbrev N_l_other : List Str := ["_law_tape_here", "_law_hung", "_law_view", "_law_place", "_law_blocks", "_law_most", "_law_row", "_law_step", "_law_ties"]
theorem sc_l_other : FnScope N_l_other ["_law_tape_here", "_law_hung", "_law_view", "_law_place"] (defScope s_l_other) := ⟨rfl, rfl, rfl, by decide +kernel, rfl, by decide +kernel, by decide +kernel⟩
abbrev s_l_word : Stmt := topS 62
abbrev N_l_word : List Str := ["_law_call", "_law_found", "error"]
theorem sc_l_word : FnScope N_l_word ["_law_call"] (defScope s_l_word) := ⟨rfl, rfl, rfl, by decide +kernel, rfl, by decide +kernel, by decide +kernel⟩
abbrev s_l_due : Stmt := topS 63
abbrev N_l_due : List Str := ["_law_trees_here", "_law_view", "_law_told_here", "_law_found", "_law_hung", "_law_bad", "_law_place", "_law_least", "_law_many"]
theorem sc_l_due : FnScope N_l_due ["_law_trees_here", "_law_view", "_law_told_here"] (defScope s_l_due) := ⟨rfl, rfl, rfl, by decide +kernel, rfl, by decide +kernel, by decide +kernel⟩
abbrev s_l_great_right : Stmt := topS 64
abbrev N_l_great_right : List Str := ["_law_tape_here", "_law_many", "_law_picture", "_law_few"]
theorem sc_l_great_right : FnScope N_l_great_right ["_law_tape_here"] (defScope s_l_great_right) := ⟨rfl, rfl, rfl, by decide +kernel, rfl, by decide +kernel, by decide +kernel⟩
abbrev s_law : Stmt := topS 65
abbrev N_law : List Str := ["_law_script", "_law_tape_here", "_law_turn", "_law_blocks", "_law_view", "_law_trees_here", "_law_hung", "_law_told_here", "_law_change", "_law_place", "_law_picture", "_law_least", "_law_due_here", "_law_one", "_law_again", "_law_other_here", "_law_bad", "_law_best"]
theorem sc_law : FnScope N_law ["_law_script"] (defScope s_law) := ⟨rfl, rfl, rfl, by decide +kernel, rfl, by decide +kernel, by decide +kernel⟩
end FV
set_option Elab.async false
set_option linter.all false
set_option maxRecDepth 100000
set_option maxHeartbeats 4000000
/-! Defs, first part: checks, trees, tellings. -/
namespace FV
open PySem PySem.Spec PyProof.Rows L2
theorem blk {N : List Str} {sc scope : Scope} {own : List (Str × Nat)} (h1 : scope.kind = .function := by rfl) (h2 : ∀ y ∈ scope.names, scope.names.lookup y.1 = some y.2 := by decide +kernel) (h3 : ∀ p ∈ own, N[p.2]? = some p.1 := by decide +kernel)
    (h4 : ∀ y ∈ scope.names, y.2 = .free → sc.names.lookup y.1 = some .cell ∨ sc.names.lookup y.1 = some .free := by first | decide +kernel | exact of_decide_eq_true rfl) (h5 : ∀ y ∈ scope.names, y.2 = .local ∨ y.2 = .cell → y.1 ∈ own.map (·.1) ∨ y.1 ∉ N := by decide +kernel) : BlkOk N sc scope own := ⟨h1, h2, h3, h4, h5⟩
section
variable {P : Program} {W : World} {K : PySem.W.Frag} {mg : Str → Option Value} {base : Heap} {cl : Nat → Addr}
abbrev FnA (K : PySem.W.Frag) (x q : Str) (st : Stmt) (f : Addr) (fd : FuncData) : Prop := FunD K x q (defArgs st) (defBody st) (defScope st) [] [] f fd
abbrev CX1 (P : Program) (W : World) (K : PySem.W.Frag) (mg : Str → Option Value) (base : Heap) (k : Nat) (n : Str) (ps : List Str) (sp : Sp) : Prop := Cal P W K mg base CX0 k n ps sp
theorem fn_px {name qual : Str} {params : Arguments} {body : List Stmt} {scope : Scope} {f : Addr} {fd : FuncData} {N ps : List Str} {k : Nat} {ds0 : List D} {c : Prop} {v : D} (F : FunD K name qual params body scope [] [] f fd) (S : FnScope N ps scope) (hl : ds0.length = ps.length)
    (hb : c → ∀ cdv A outer s H E, Room k (Xd P W K mg base N qual scope f cdv A outer s H E).A →
      WSs cl (Xd P W K mg base N qual scope f cdv A outer s H E) 0 (ds0.map Sl.d ++ List.replicate (N.length - ds0.length) .u) [] body { nx := fun _ _ => v = .non, rt := fun x _ => x = .d v }) : FnOk P W K mg base CX0 (k + 1) f fd ps (PX K cl ds0 c v) :=
  fn_pure F S (fun ds h => by rw [h.1]; exact hl) fun cdv A outer s H E hr ds h => by
    obtain ⟨rfl, hc⟩ := h
    exact hb hc cdv A outer s H E hr

section
variable (P : Program) (W : World) (K : PySem.W.Frag) (mg : Str → Option Value) (base : Heap) (cl : Nat → Addr)
abbrev C_is_integer : Prop := ∀ i : Nat, CX1 P W K mg base 1 "is_integer" ["thing"] (PX K cl [eN i] True (.bl true))
abbrev C_is_within : Prop := ∀ i j k : Nat, CX1 P W K mg base 2 "is_within" ["thing", "least", "most"] (PX K cl [eN i, eN j, eN k] True (.bl (decide (j ≤ i) && decide (i ≤ k))))
abbrev C_is_pair : Prop := ∀ xs : List D, CX1 P W K mg base 1 "is_pair" ["thing"] (PX K cl [.tup xs] True (.bl (decide (xs.length = 2))))
abbrev C_leads_home : Prop := ∀ (h : List Nat) (b : Nat), CX1 P W K mg base 1 "leads_home" ["hung", "block"] (PX K cl [eNs h, eN b] ((∀ x ∈ h, x ≤ h.length) ∧ b ≤ h.length ∧ h.length ≤ 40) (.bl (leads h (h.length + 1) b)))
end
theorem ok_is_integer {f : Addr} {fd : FuncData} (B : Bl mg) (F : FnA K "is_integer" "is_integer" s_is_integer f fd) (i : Nat) : FnOk P W K mg base CX0 1 f fd ["thing"] (PX K cl [eN i] True (.bl true)) := by
  refine fn_px F sc_is_integer rfl fun _ cdv A outer s H E hr => ?_
  exact wss_one (ws_ret (wp_and (wp_isi_int B (wp_v 0)) fun _ => wp_one (wp_not (wp_isi_bool B (wp_v 0)))) rfl)
theorem ok_is_within {f : Addr} {fd : FuncData} (B : Bl mg) (F : FnA K "is_within" "is_within" s_is_within f fd) (C : C_is_integer P W K mg base cl) (i j k : Nat) : FnOk P W K mg base CX0 2 f fd ["thing", "least", "most"] (PX K cl [eN i, eN j, eN k] True (.bl (decide (j ≤ i) && decide (i ≤ k)))) := by
  refine fn_px F sc_is_within rfl fun _ cdv A outer s H E hr => ?_
  refine wss_one (ws_ret (wp_and (t := true) (wp_px (C i) hr (Nat.le_refl _) (wa_cons (wp_v 0) wa_nil) trivial pass0) fun _ => wp_one (wp_chain (wp_v 1) (wp_v 0) (wp_v 2))) ?_)
  show Sl.d (D.bl _) = Sl.d (D.bl _)
  simp
theorem ok_is_pair {f : Addr} {fd : FuncData} (B : Bl mg) (F : FnA K "is_pair" "is_pair" s_is_pair f fd) (xs : List D) : FnOk P W K mg base CX0 1 f fd ["thing"] (PX K cl [.tup xs] True (.bl (decide (xs.length = 2)))) := by
  refine fn_px F sc_is_pair rfl fun _ cdv A outer s H E hr => ?_
  refine wss_one (ws_ret (wp_and (wp_isi_tup B (wp_v 0)) fun _ => wp_one (wp_is (wp_eq (wp_lenT B (wp_v 0)) (wp_k 2)) (congrArg D.bl (decide_eq_decide.mpr ?_)))) rfl)
  show ((xs.length : Int) = ((2 : Nat) : Int)) ↔ xs.length = 2
  omega
theorem hang_le {h : List Nat} {n : Nat} (hh : ∀ x ∈ h, x ≤ n) (b : Nat) : hangAt h b ≤ n := by
  unfold hangAt
  rw [List.getD_eq_getElem?_getD]
  cases q : h[b - 1]? with
  | none => exact Nat.zero_le _
  | some x => exact hh x (List.mem_of_getElem? q)
theorem ok_leads_home {f : Addr} {fd : FuncData} (B : Bl mg) (g0 : ∃ t, mg "HEAD" = some (.int 0 t)) (F : FnA K "leads_home" "leads_home" s_leads_home f fd) (h : List Nat) (b : Nat) : FnOk P W K mg base CX0 1 f fd ["hung", "block"] (PX K cl [eNs h, eN b] ((∀ x ∈ h, x ≤ h.length) ∧ b ≤ h.length ∧ h.length ≤ 40) (.bl (leads h (h.length + 1) b))) := by
  refine fn_px F sc_leads_home rfl fun ⟨hh, hb, hz⟩ cdv A outer s H E hr => ?_
  refine wss_cons (ws_setp 2 sc_leads_home.nd (wp_v 1) ?_)
  refine wss_cons (ws_for PassesOwn.never rfl (wi_range B (wp_addN (wp_lenTm B (wp_v 0)) (wp_k 1)) (by omega)) (fun i r1 w1 => ∃ x, x ≤ h.length ∧ leads h (h.length + 1) b = leads h (h.length + 1 - i) x ∧ r1 = [.d (eNs h), .d (eN b), .d (eN x), .u] ∧ w1 = []) ⟨b, hb, rfl, rfl, rfl⟩ (fun i x r1 w1 e hP => ?_) fun r1 w1 hP => ?_)
  · obtain ⟨x, hx, e2, rfl, rfl⟩ := hP
    have hi : i < h.length + 1 := by
      have := (List.getElem?_eq_some_iff.mp e).1
      simpa using this
    obtain ⟨k, hk⟩ : ∃ k, h.length + 1 - i = k + 1 := ⟨h.length - i, by omega⟩
    refine ⟨_, _, wg_n 3 sc_leads_home.nd, wss_cons (ws_if (wt_eqN (wp_v 2) (wp_gint g0)) (fun h0 => ?_) fun h0 => wss_nil (wss_one ?_))⟩
    · refine wss_one (ws_ret wp_bl ?_)
      show Sl.d (D.bl _) = Sl.d (D.bl _)
      rw [e2, hk]
      have : x = 0 := of_decide_eq_true h0
      simp [leads, this]
    · have hx0 : ¬ x = 0 := of_decide_eq_false h0
      refine ws_setp 2 sc_leads_home.nd (wp_hang (wp_v 0) (wp_v 2) (by omega) hx) ⟨_, .same (.same (.same (.u .nil))), hangAt h x, hang_le hh x, ?_, rfl, rfl⟩
      rw [e2, hk]
      simp only [leads, if_neg hx0]
      congr 1
      omega
  · obtain ⟨x, hx, e2, rfl, rfl⟩ := hP
    refine wss_one (ws_ret wp_bl ?_)
    show Sl.d (D.bl _) = Sl.d (D.bl _)
    rw [e2]
    simp [leads]
end
end FV
set_option Elab.async false
set_option linter.all false
set_option maxRecDepth 100000
set_option maxHeartbeats 4000000
/-! Defs, second part: trees, tellings. -/
namespace FV
open PySem PySem.Spec PyProof.Rows L2
section
variable {P : Program} {W : World} {K : PySem.W.Frag} {mg : Str → Option Value} {base : Heap} {cl : Nat → Addr}
/-- a tree's tuple -/
structure Tr (h : List Nat) : Prop where
  len : h.length ≤ 40
  all : ∀ x ∈ h, x ≤ h.length
  home : ∀ b, b ≤ h.length → leads h (h.length + 1) b = true
theorem leads_zero (h : List Nat) (f : Nat) : leads h (f + 1) 0 = true := by simp [leads]
theorem mem_blocks {n b : Nat} : b ∈ blocksOf n ↔ 1 ≤ b ∧ b ≤ n := by
  unfold blocksOf
  rw [List.mem_map]
  constructor
  · rintro ⟨i, h, rfl⟩
    rw [List.mem_range] at h
    omega
  · exact fun h => ⟨b - 1, by rw [List.mem_range]; omega, by omega⟩
theorem blocks_len (n : Nat) : (blocksOf n).length = n := by simp [blocksOf]

theorem ok_parents_in {f : Addr} {fd : FuncData} (B : Bl mg) (g0 : ∃ t, mg "HEAD" = some (.int 0 t)) (F : FnA K "parents_in" "parents_in" s_parents_in f fd) (h : List Nat) (b : Nat) : FnOk P W K mg base CX0 1 f fd ["hung", "place"] (PX K cl [eNs h, eN b] (Tr h ∧ b ≤ h.length) (lNs (parentsF h h.length b))) := by
  refine fn_px F sc_parents_in rfl fun ⟨T, hb⟩ cdv A outer s H E hr => ?_
  refine wss_cons (ws_newL 2 sc_parents_in.nd wa_nil (by decide) ?_)
  refine wss_cons (ws_setp 3 sc_parents_in.nd (wp_v 1) ?_)
  refine wss_cons (ws_while PassesOwn.never (fun k r1 w1 => ∃ x acc, x ≤ h.length ∧ k ≤ h.length ∧ acc.length + k = h.length ∧ leads h (k + 1) x = true ∧ acc ++ parentsF h k x = parentsF h h.length b ∧ r1 = [.d (eNs h), .d (eN b), .o 0, .d (eN x)] ∧ w1 = [.lst (acc.map eN)]) h.length ⟨b, [], hb, Nat.le_refl _, by simp, T.home b hb, rfl, rfl, rfl⟩ fun k r1 w1 hP => ?_)
  obtain ⟨x, acc, hx, hk, hz, hl, e, rfl, rfl⟩ := hP
  refine ⟨_, wt_neN (wp_v 3) (wp_gint g0), fun ht => ?_, fun hf => ?_⟩
  · have hx0 : ¬ x = 0 := by simpa using ht
    obtain ⟨k, rfl⟩ : ∃ j, k = j + 1 := by
      cases k with
      | zero => simp [leads, hx0] at hl
      | succ j => exact ⟨j, rfl⟩
    refine wss_cons (ws_setp 3 sc_parents_in.nd (wp_hang (wp_v 0) (wp_v 3) (by omega) hx) ?_)
    refine wss_one (ws_append 2 rfl rfl (wp_v 3) ?_ ⟨k, _, by omega, .refl _, hangAt h x, acc ++ [hangAt h x], hang_le T.all x, by omega, ?_, ?_, ?_, rfl, ?_⟩)
    · rw [List.length_map]
      have := T.len
      omega
    · rw [List.length_append]
      simp
      omega
    · rw [leads, if_neg hx0] at hl
      exact hl
    · rw [← e, List.append_assoc]
      simp [parentsF, hx0]
    · simp
  · have hx0 : x = 0 := by simpa using hf
    subst hx0
    refine wss_one (ws_retO 2 0 rfl rfl rfl (Nat.zero_le _) ?_)
    show Sl.d (D.lst (acc.map eN)) = Sl.d (lNs _)
    have : acc = parentsF h h.length b := by
      rw [← e]
      cases k <;> simp [parentsF]
    rw [← this]
theorem ok_hanging {f : Addr} {fd : FuncData} (B : Bl mg) (F : FnA K "hanging" "hanging" s_hanging f fd) (h : List Nat) (p : Nat) : FnOk P W K mg base CX0 1 f fd ["hung", "place"] (PX K cl [eNs h, eN p] (h.length ≤ 40) (lNs (hanging h p))) := by
  refine fn_px F sc_hanging rfl fun hz cdv A outer s H E hr => ?_
  refine wss_one (ws_ret (wp_is (wp_lc (xs := blocksOf h.length) (enc := eN) (f := fun b => decide (hangAt h b = p)) (g := eN) (ra := fun b => [.d (eNs h), .d (eN p), .d (eN b)]) [("block", 2)] rfl sc_hanging.nd (blk : BlkOk N_hanging (defScope s_hanging) _ _) (by rw [blocks_len]; omega)
    (wi_blocks B (wp_k 1) (wp_addN (wp_lenTm B (wp_v 0)) (wp_k 1)) (by omega)) (fun i hi => hi) (fun x hx _ _ _ _ _ => wg_n 2 sc_hanging.nd) (fun x hx _ _ _ _ _ => wts_one (wt_eqN (wp_hang (wp_v 0) (wp_v 2) (mem_blocks.mp hx).1 (mem_blocks.mp hx).2) (wp_v 1))) (fun x hx _ _ _ _ _ _ => wp_v 2)) ?_) rfl)
  show D.lst _ = D.lst _
  unfold hanging
  congr 2

/-- the text's constants -/
structure Gn (mg : Str → Option Value) : Prop where
  head : ∃ t, mg "HEAD" = some (.int 0 t)
  steps : ∃ t, mg "MOST_STEPS" = some (.int 4 t)
  mbc : ∃ t, mg "MOST_BLOCKS_checks" = some (.int 40 t)
  mbw : ∃ t, mg "MOST_BLOCKS_wrongs" = some (.int 10 t)
  mtr : ∃ t, mg "MOST_TREES" = some (.int 1000 t)
/-- the text's classes -/
structure Kf (K : PySem.W.Frag) (cl : Nat → Addr) : Prop where
  tree : Cls K (cl 0)
  hung : NoAttr K (cl 0) "hung"
  pic : Cls K (cl 1)
  view : NoAttr K (cl 1) "view"
  pblocks : NoAttr K (cl 1) "blocks"
  told : NoAttr K (cl 1) "told"
  lad : Cls K (cl 2)
  lblocks : NoAttr K (cl 2) "blocks"
  ties : NoAttr K (cl 2) "ties"
  piece : NoAttr K (cl 2) "piece"
  tops : NoAttr K (cl 2) "tops"
  lots : NoAttr K (cl 2) "lots"
  every : NoAttr K (cl 2) "every"
theorem all_ids {α : Type} (xs : List α) (f : α → Bool) : ((xs.map f).all id) = xs.all f := by
  rw [List.all_map]
  rfl
theorem filter_true {α : Type} (xs : List α) : xs.filter (fun _ => true) = xs := by simp
theorem lst_bls {α : Type} (xs : List α) (f : α → Bool) : D.lst ((xs.filter fun _ => true).map fun x => D.bl (f x)) = D.lst ((xs.map f).map D.bl) := by rw [filter_true, List.map_map]; rfl
theorem ok_is_view {f : Addr} {fd : FuncData} (B : Bl mg) (G : Gn mg) (C1 : C_is_pair P W K mg base cl) (C2 : C_is_within P W K mg base cl) (F : FnA K "is_view" "is_view" s_is_view f fd) (v : Nat × Nat) : FnOk P W K mg base CX0 3 f fd ["thing"] (PX K cl [eP v] True (.bl (decide (v.1 ≤ 4) && decide (v.2 ≤ 4)))) := by
  refine fn_px F sc_is_view rfl fun _ cdv A outer s H E hr => ?_
  refine wss_one (ws_ret (wp_and (t := true) (u := decide (v.1 ≤ 4) && decide (v.2 ≤ 4)) ?_ fun _ => wp_one (wp_is (wp_all (bs := [v.1, v.2].map fun i => decide (0 ≤ i) && decide (i ≤ 4)) B rfl (wp_is (x := .lst (([v.1, v.2].filter fun _ => true).map fun i => .bl (decide (0 ≤ i) && decide (i ≤ 4)))) ?_ (lst_bls _ _))) ?_)) ?_)
  · exact wp_px (C1 [eN v.1, eN v.2]) hr (by omega) (wa_cons (wp_v 0) wa_nil) trivial pass0
  · exact (wp_lc (xs := [v.1, v.2]) (enc := eN) (f := fun _ => true) (g := fun i => .bl (decide (0 ≤ i) && decide (i ≤ 4))) (ra := fun i => [.d (eP v), .d (eN i)]) [("item", 1)] rfl sc_is_view.nd (blk : BlkOk N_is_view (defScope s_is_view) _ _) (by show 2 ≤ 100000; decide)
      (wi_T (wp_v 0)) (fun i hi => hi) (fun x hx _ _ _ _ _ => wg_n 1 sc_is_view.nd) (fun x hx _ _ _ _ _ => wts_nil) (fun x hx _ _ _ _ _ _ => wp_px (C2 x 0 4) hr (Nat.le_refl _) (wa_cons (wp_v 1) (wa_cons (wp_k 0) (wa_cons (wp_gint G.steps) wa_nil))) trivial pass0))
  · show D.bl _ = D.bl _
    simp
  · show Sl.d (D.bl _) = Sl.d (D.bl _)
    simp
end
end FV
set_option Elab.async false
set_option linter.all false
set_option maxRecDepth 100000
set_option maxHeartbeats 4000000
/-! Defs, third part: tellings. -/
namespace FV
open PySem PySem.Spec PyProof.Rows L2
section
variable {P : Program} {W : World} {K : PySem.W.Frag} {mg : Str → Option Value} {base : Heap} {cl : Nat → Addr}
section
variable (P : Program) (W : World) (K : PySem.W.Frag) (mg : Str → Option Value) (base : Heap) (cl : Nat → Addr)
abbrev C_is_view : Prop := ∀ v : Nat × Nat, CX1 P W K mg base 3 "is_view" ["thing"] (PX K cl [eP v] True (.bl (decide (v.1 ≤ 4) && decide (v.2 ≤ 4))))
abbrev C_parents_in : Prop := ∀ (h : List Nat) (b : Nat), CX1 P W K mg base 1 "parents_in" ["hung", "place"] (PX K cl [eNs h, eN b] (Tr h ∧ b ≤ h.length) (lNs (parentsF h h.length b)))
abbrev C_hanging : Prop := ∀ (h : List Nat) (p : Nat), CX1 P W K mg base 1 "hanging" ["hung", "place"] (PX K cl [eNs h, eN p] (h.length ≤ 40) (lNs (hanging h p)))
abbrev C_ties_down : Prop := ∀ (h : List Nat) (p k : Nat), CX1 P W K mg base 2 "ties_down" ["hung", "place", "steps"] (PX K cl [eNs h, eN p, eN k] (h.length ≤ 15 ∧ k ≤ 4) (.tup ((sortP (tiesL h k [p])).map eP)))
abbrev C_raw_telling : Prop := ∀ (h : List Nat) (v : Nat × Nat) (p : Nat), CX1 P W K mg base 3 "raw_telling" ["hung", "view", "place"] (PX K cl [eNs h, eP v, eN p] (Tr h ∧ p ≤ h.length ∧ h.length ≤ 15 ∧ v.2 ≤ 4) (eT (rawTel h v p)))
abbrev C_raw_distance : Prop := ∀ (v : Nat × Nat), CX1 P W K mg base 1 "raw_distance" ["view"] (PX K cl [eP v] True (eN (rawDist v)))
abbrev K_Tree : Prop := ∀ (h : List Nat), KCal P W K mg base CX0 3 (cl 0) "Tree" ["self", "hung"] (spI K cl 0 [eNs h] (Tr h ∧ 1 ≤ h.length ∧ ∀ b, 1 ≤ b → b ≤ h.length → hangAt h b ≠ b) ["hung"] [eNs h])
end
/-! ### sizes -/
theorem layer_len (h : List Nat) : ∀ l : List Nat, (layerStep h l).length ≤ l.length * h.length
  | [] => by simp [layerStep]
  | x :: l => by
    have h1 := layer_len h l
    have h2 : (hanging h x).length ≤ h.length := by
      have := List.length_filter_le (fun b => hangAt h b == x) (blocksOf h.length)
      rw [blocks_len] at this
      exact this
    unfold layerStep at h1 ⊢
    rw [List.flatMap_cons, List.length_append, List.length_map, List.length_cons, Nat.succ_mul]
    omega
theorem ties_len {h : List Nat} (hz : h.length ≤ 15) : ∀ (k : Nat) (l : List Nat) (m : Nat), l.length ≤ m → (tiesL h k l).length ≤ m * (16 ^ k - 1)
  | 0, l, m, _ => by simp [tiesL]
  | k + 1, l, m, hl => by
    have h1 := layer_len h l
    have h2 : (layerStep h l).length ≤ m * 15 := Nat.le_trans h1 (Nat.mul_le_mul hl hz)
    have h3 := ties_len hz k ((layerStep h l).map (·.1)) (m * 15) (by rw [List.length_map]; exact h2)
    unfold tiesL
    rw [List.length_append]
    have p : 1 ≤ 16 ^ k := Nat.one_le_pow _ _ (by decide)
    have e : m * 15 * (16 ^ k - 1) + m * 15 = m * (16 ^ (k + 1) - 1) - m * (16 ^ k - 1) + 0 ∨ True := .inr trivial
    have : m * 15 + m * 15 * (16 ^ k - 1) ≤ m * (16 ^ (k + 1) - 1) := by
      have e1 : m * 15 + m * 15 * (16 ^ k - 1) = m * (15 * 16 ^ k) := by
        rw [Nat.mul_assoc, ← Nat.mul_add]
        congr 1
        have : 15 * (16 ^ k - 1) = 15 * 16 ^ k - 15 := by rw [Nat.mul_sub]
        omega
      rw [e1]
      refine Nat.mul_le_mul_left _ ?_
      rw [Nat.pow_succ]
      omega
    omega
theorem ties_small {h : List Nat} (hz : h.length ≤ 15) {k : Nat} (hk : k ≤ 4) (p : Nat) : (tiesL h k [p]).length < 70000 := by
  have h1 := ties_len hz k [p] 1 (Nat.le_refl _)
  have h2 : 16 ^ k ≤ 16 ^ 4 := Nat.pow_le_pow_right (by decide) hk
  omega
theorem layer_take (h l : List Nat) (i : Nat) (x : Nat) (e : l[i]? = some x) : layerStep h (l.take (i + 1)) = layerStep h (l.take i) ++ (hanging h x).map fun b => (b, x) := by
  rw [List.take_add_one, e]
  unfold layerStep
  rw [List.flatMap_append]
  simp
theorem layer_take_le (h l : List Nat) (i : Nat) : (layerStep h (l.take i)).length ≤ (layerStep h l).length := by
  have : layerStep h l = layerStep h (l.take i) ++ layerStep h (l.drop i) := by
    unfold layerStep
    rw [← List.flatMap_append, List.take_append_drop]
  rw [this, List.length_append]
  omega
theorem ok_ties_down {f : Addr} {fd : FuncData} (B : Bl mg) (C : C_hanging P W K mg base cl) (F : FnA K "ties_down" "ties_down" s_ties_down f fd) (h : List Nat) (p k : Nat) : FnOk P W K mg base CX0 2 f fd ["hung", "place", "steps"] (PX K cl [eNs h, eN p, eN k] (h.length ≤ 15 ∧ k ≤ 4) (.tup ((sortP (tiesL h k [p])).map eP))) := by
  refine fn_px F sc_ties_down rfl fun ⟨hz, hk⟩ cdv A outer s H E hr => ?_
  have tot := ties_small hz hk p
  refine wss_cons (ws_newL 3 sc_ties_down.nd wa_nil (by decide) ?_)
  refine wss_cons (ws_setp 4 sc_ties_down.nd (wp_lst (wa_cons (wp_v 1) wa_nil) (by show 1 ≤ 100000; decide)) ?_)
  refine wss_cons (ws_for PassesOwn.never rfl (wi_range B (wp_v 2) (by omega)) (fun i r1 w1 => ∃ found layer, found ++ tiesL h (k - i) layer = tiesL h k [p] ∧ r1 = [.d (eNs h), .d (eN p), .d (eN k), .o 0, .d (lNs layer), .u, .u, .u, .u] ∧ w1 = .lst (found.map eP) :: List.replicate i .gone) ⟨[], [p], rfl, rfl, rfl⟩ (fun i x r1 w1 e hP => ?_) fun r1 w1 hP => ?_)
  · obtain ⟨found, layer, ef, rfl, rfl⟩ := hP
    have hi : i < k := by
      have := (List.getElem?_eq_some_iff.mp e).1
      simpa using this
    obtain ⟨j, hj⟩ : ∃ j, k - i = j + 1 := ⟨k - i - 1, by omega⟩
    have hj' : k - (i + 1) = j := by omega
    rw [hj] at ef
    have ef2 : found ++ (layerStep h layer ++ tiesL h j ((layerStep h layer).map (·.1))) = tiesL h k [p] := ef
    have hlen : found.length + (layerStep h layer).length < 70000 := by
      have := congrArg List.length ef2
      rw [List.length_append, List.length_append] at this
      omega
    have wl : (Ow.lst (found.map eP) :: List.replicate i Ow.gone).length = i + 1 := by simp
    obtain ⟨q, hq⟩ : ∃ q : Nat, x = eN q := by
      rw [List.getElem?_map] at e
      obtain ⟨q, _, h2⟩ := Option.map_eq_some_iff.mp e
      exact ⟨q, h2.symm⟩
    subst hq
    refine ⟨_, _, wg_n 5 sc_ties_down.nd, ?_⟩
    refine wss_cons (ws_newL 6 sc_ties_down.nd wa_nil (by decide) ?_)
    refine wss_cons (ws_for PassesOwn.never rfl (wi_L (wp_v 4)) (fun i2 r2 w2 => ∃ s7 s8, r2 = [.d (eNs h), .d (eN p), .d (eN k), .o 0, .d (lNs layer), .d (eN q), .o (i + 1), s7, s8] ∧ w2 = (Ow.lst (found.map eP) :: List.replicate i Ow.gone) ++ [.lst ((layerStep h (layer.take i2)).map eP)]) ⟨.u, .u, ?_, rfl⟩ (fun i2 y r2 w2 e2 hP2 => ?_) fun r2 w2 hP2 => ?_)
    · rw [wl]
      rfl
    · obtain ⟨s7, s8, rfl, rfl⟩ := hP2
      obtain ⟨x2, hx2, rfl⟩ : ∃ x2 : Nat, layer[i2]? = some x2 ∧ eN x2 = y := by
        rw [List.getElem?_map] at e2
        exact Option.map_eq_some_iff.mp e2
      have le2 := layer_take_le h layer i2
      have le3 := layer_take_le h layer (i2 + 1)
      rw [layer_take h layer i2 x2 hx2, List.length_append, List.length_map] at le3
      have lhang : (hanging h x2).length ≤ 15 := by
        have := List.length_filter_le (fun b => hangAt h b == x2) (blocksOf h.length)
        rw [blocks_len] at this
        exact Nat.le_trans this hz
      have gw : ((Ow.lst (found.map eP) :: List.replicate i Ow.gone) ++ [Ow.lst ((layerStep h (layer.take i2)).map eP)])[i + 1]? = some (.lst ((layerStep h (layer.take i2)).map eP)) := by
        rw [List.getElem?_append_right (by rw [wl]; exact Nat.le_refl _), wl, Nat.sub_self]
        rfl
      refine ⟨_, _, wg_n 7 sc_ties_down.nd, wss_one (ws_extendL 6 rfl gw (wp_lcm (xs := hanging h x2) (enc := eN) (ra := fun b => [.d (eNs h), .d (eN p), .d (eN k), .o 0, .d (lNs layer), .d (eN q), .o (i + 1), .d (eN x2), .d (eN b)]) (g := fun b => eP (b, x2)) [("block", 8)] rfl sc_ties_down.nd (blk : BlkOk N_ties_down (defScope s_ties_down) _ _) (by omega)
        (wi_L (wp_px (C h x2) hr (Nat.le_refl _) (wa_cons (wp_v 0) (wa_cons (wp_v 7) wa_nil)) (by omega) pass0)) (fun i hi => hi) (fun b hb _ _ _ _ _ => wg_n 8 sc_ties_down.nd) (fun b hb _ _ _ _ _ => wp_tup (wa_cons (wp_v 8) (wa_cons (wp_v 7) wa_nil)) (by show 2 ≤ 100000; decide))) ?_ ⟨_, .refl _, _, _, rfl, ?_⟩)⟩
      · rw [List.length_map, List.length_map]
        omega
      · rw [List.set_append_right _ _ (by rw [wl]; exact Nat.le_refl _), wl, Nat.sub_self, layer_take h layer i2 x2 hx2, List.map_append, List.map_map]
        rfl
    · obtain ⟨s7, s8, rfl, rfl⟩ := hP2
      rw [List.length_map, List.take_length]
      have gw : ((Ow.lst (found.map eP) :: List.replicate i Ow.gone) ++ [Ow.lst ((layerStep h layer).map eP)])[i + 1]? = some (.lst ((layerStep h layer).map eP)) := by
        rw [List.getElem?_append_right (by rw [wl]; exact Nat.le_refl _), wl, Nat.sub_self]
        rfl
      refine wss_sub (r' := [.d (eNs h), .d (eN p), .d (eN k), .o 0, .d (lNs layer), .d (eN q), .o (i + 1), .u, .u]) (.same (.same (.same (.same (.same (.same (.same (.u (.u .nil))))))))) ?_
      refine wss_share 6 (i + 1) rfl gw rfl (by show 1 ≤ i + 1; omega) (no_o (by simp)) ?_
      have w2e : ((Ow.lst (found.map eP) :: List.replicate i Ow.gone) ++ [Ow.lst ((layerStep h layer).map eP)]).set (i + 1) .gone = Ow.lst (found.map eP) :: List.replicate (i + 1) Ow.gone := by
        rw [List.set_append_right _ _ (by rw [wl]; exact Nat.le_refl _), wl, Nat.sub_self, List.replicate_succ']
        rfl
      rw [w2e]
      refine wss_cons (ws_extendL 3 rfl rfl (wp_v 6) (by rw [List.length_map, List.length_map]; omega) ?_)
      refine wss_one (ws_setLcm 4 (xs := layerStep h layer) (enc := eP) (ra := fun b => [.d (eNs h), .d (eN p), .d (eN k), .o 0, .d (lNs layer), .d (eN q), .d (.lst ((layerStep h layer).map eP)), .d (eN b.2), .d (eN b.1)]) (g := fun b => eN b.1) [("block", 8), ("here", 7)] rfl sc_ties_down.nd (blk : BlkOk N_ties_down (defScope s_ties_down) _ _) (by omega)
        (wi_L (wp_v 6)) (fun i hi => hi) (fun b hb _ _ _ _ _ => wg_two rfl (wg_n 8 sc_ties_down.nd) (wg_n 7 sc_ties_down.nd)) (fun b hb _ _ _ _ _ => wp_v 8) ?_)
      refine ⟨_, .same (.same (.same (.same (.same (.u (.u (.u (.u .nil)))))))), found ++ layerStep h layer, (layerStep h layer).map (·.1), ?_, ?_, ?_⟩
      · rw [hj', List.append_assoc]
        exact ef2
      · show _ = _
        simp
      · show (_ :: _ : List Ow) = _
        rw [List.map_append]
  · obtain ⟨found, layer, ef, rfl, rfl⟩ := hP
    rw [List.length_map, List.length_range, Nat.sub_self] at ef
    have ef : found ++ [] = tiesL h k [p] := ef
    rw [List.append_nil] at ef
    subst ef
    refine wss_share 3 0 rfl rfl rfl (Nat.zero_le _) (no_o (by simp)) ?_
    exact wss_one (ws_ret (wp_tupleL B (wp_sortP B hr (wp_v 3))) rfl)
end
end FV
set_option Elab.async false
set_option linter.all false
set_option maxRecDepth 100000
set_option maxHeartbeats 4000000
/-! Defs, fourth part: tellings, trees made, pictures. -/
namespace FV
open PySem PySem.Spec PyProof.Rows L2
section
variable {P : Program} {W : World} {K : PySem.W.Frag} {mg : Str → Option Value} {base : Heap} {cl : Nat → Addr}
theorem ok_raw_telling {f : Addr} {fd : FuncData} (B : Bl mg) (C1 : C_parents_in P W K mg base cl) (C2 : C_ties_down P W K mg base cl) (F : FnA K "raw_telling" "raw_telling" s_raw_telling f fd) (h : List Nat) (v : Nat × Nat) (p : Nat) : FnOk P W K mg base CX0 3 f fd ["hung", "view", "place"] (PX K cl [eNs h, eP v, eN p] (Tr h ∧ p ≤ h.length ∧ h.length ≤ 15 ∧ v.2 ≤ 4) (eT (rawTel h v p))) := by
  refine fn_px F sc_raw_telling rfl fun ⟨T, hp, hz, hk⟩ cdv A outer s H E hr => ?_
  refine wss_one (ws_ret (wp_tup (ds := [eNs (rawTel h v p).1, .tup ((rawTel h v p).2.map eP)]) (wa_cons (wp_tupleL B ?_) (wa_cons ?_ wa_nil)) (by show 2 ≤ 100000; decide)) rfl)
  · refine wp_is (wp_slL (wp_px (C1 h p) hr (by omega) (wa_cons (wp_v 0) (wa_cons (wp_v 2) wa_nil)) ⟨T, hp⟩ pass0) wo_none (wo_some (wp_ixT (wp_v 1) (wp_k 0) (z := eN v.1) rfl))) ?_
    rw [cut_to]
    rfl
  · exact wp_px (C2 h p v.2) hr (by omega) (wa_cons (wp_v 0) (wa_cons (wp_v 2) (wa_cons (wp_ixT (wp_v 1) (wp_k 1) rfl) wa_nil))) ⟨hz, hk⟩ pass0
theorem ok_raw_distance {f : Addr} {fd : FuncData} (B : Bl mg) (F : FnA K "raw_distance" "raw_distance" s_raw_distance f fd) (v : Nat × Nat) : FnOk P W K mg base CX0 1 f fd ["view"] (PX K cl [eP v] True (eN (rawDist v))) := by
  refine fn_px F sc_raw_distance rfl fun _ cdv A outer s H E hr => ?_
  refine wss_cons (ws_asg (wp_v 0) (wg_two rfl (wg_n 1 sc_raw_distance.nd) (wg_n 2 sc_raw_distance.nd)) ?_)
  refine wss_cons (ws_setp 3 sc_raw_distance.nd (wp_if (d := eN (if v.1 > 0 then 1 else 0)) (wt_gtN (wp_v 1) (wp_k 0)) (fun h => wp_is (wp_k 1) ?_) (fun h => wp_is (wp_k 0) ?_)) ?_)
  · rw [if_pos (of_decide_eq_true h)]
  · rw [if_neg (of_decide_eq_false h)]
  · refine wss_one (ws_ret (wp_if (d := eN (rawDist v)) (wt_gtN (wp_v 2) (wp_k 0)) (fun h => wp_is (wp_addN (wp_addN (wp_v 2) (wp_k 1)) (wp_v 3)) ?_) (fun h => wp_is (wp_v 3) ?_)) rfl)
    · unfold rawDist
      rw [if_pos (show v.2 > 0 from of_decide_eq_true h)]
    · unfold rawDist
      rw [if_neg (show ¬ v.2 > 0 from of_decide_eq_false h)]
theorem ok_Tree_init {f : Addr} {fd : FuncData} (B : Bl mg) (G : Gn mg) (kf : Kf K cl) (C1 : C_is_within P W K mg base cl) (C2 : C_leads_home P W K mg base cl) (F : FnA K "__init__" "Tree.__init__" s_Tree_init f fd) (h : List Nat) : FnOk P W K mg base CX0 3 f fd ["self", "hung"] (spI K cl 0 [eNs h] (Tr h ∧ 1 ≤ h.length ∧ ∀ b, 1 ≤ b → b ≤ h.length → hangAt h b ≠ b) ["hung"] [eNs h]) := by
  refine fn_init F sc_Tree_init rfl fun ⟨T, h1, hn⟩ cdv A outer s H E hr => ?_
  have hz := T.len
  refine wss_cons (ws_if (t := false) ?_ (fun z => by cases z) fun _ => wss_nil ?_)
  · refine wt_is (wt_ww (ww_or (wt_not (wt_val (wp_isi_tup B (wp_v 1)))) fun _ => ww_or1 (wt_not (wt_chain (wp_k 1) (wp_lenTm B (wp_v 1)) (wp_gint G.mbc))))) ?_
    simp
    omega
  refine wss_cons (ws_for PassesOwn.never rfl (wi_blocks B (wp_k 1) (wp_addN (wp_lenTm B (wp_v 1)) (wp_k 1)) (by omega)) (fun i r1 w1 => r1 = [.o 0, .d (eNs h), .u] ∧ w1 = [.ins 0 [] []]) ⟨rfl, rfl⟩ (fun i x r1 w1 e hP => ?_) fun r1 w1 hP => ?_)
  · obtain ⟨rfl, rfl⟩ := hP
    obtain ⟨b, hb, rfl⟩ : ∃ b : Nat, (1 ≤ b ∧ b ≤ h.length) ∧ eN b = x := by
      rw [List.getElem?_map] at e
      obtain ⟨b, g1, g2⟩ := Option.map_eq_some_iff.mp e
      exact ⟨b, mem_blocks.mp (List.mem_of_getElem? g1), g2⟩
    refine ⟨_, _, wg_n 2 sc_Tree_init.nd, wss_one (ws_if (t := false) ?_ (fun z => by cases z) fun _ => wss_nil ⟨_, .same (.same (.u .nil)), rfl, rfl⟩)⟩
    refine wt_is (wt_ww (ww_or (wt_not (wt_val (wp_px (C1 (hangAt h b) 0 h.length) hr (by omega) (wa_cons (wp_hang (wp_v 1) (wp_v 2) hb.1 hb.2) (wa_cons (wp_k 0) (wa_cons (wp_lenTm B (wp_v 1)) wa_nil))) trivial pass0))) fun _ => ww_or1 (wt_eqN (wp_hang (wp_v 1) (wp_v 2) hb.1 hb.2) (wp_v 2)))) ?_
    have := hang_le T.all b
    have := hn b hb.1 hb.2
    simp
    omega
  obtain ⟨rfl, rfl⟩ := hP
  refine wss_cons (ws_for PassesOwn.never rfl (wi_blocks B (wp_k 1) (wp_addN (wp_lenTm B (wp_v 1)) (wp_k 1)) (by omega)) (fun i r1 w1 => r1 = [.o 0, .d (eNs h), .u] ∧ w1 = [.ins 0 [] []]) ⟨rfl, rfl⟩ (fun i x r1 w1 e hP => ?_) fun r1 w1 hP => ?_)
  · obtain ⟨rfl, rfl⟩ := hP
    obtain ⟨b, hb, rfl⟩ : ∃ b : Nat, (1 ≤ b ∧ b ≤ h.length) ∧ eN b = x := by
      rw [List.getElem?_map] at e
      obtain ⟨b, g1, g2⟩ := Option.map_eq_some_iff.mp e
      exact ⟨b, mem_blocks.mp (List.mem_of_getElem? g1), g2⟩
    refine ⟨_, _, wg_n 2 sc_Tree_init.nd, wss_one (ws_if (t := false) ?_ (fun z => by cases z) fun _ => wss_nil ⟨_, .same (.same (.u .nil)), rfl, rfl⟩)⟩
    refine wt_is (wt_not (wt_val (wp_px (C2 h b) hr (by omega) (wa_cons (wp_v 1) (wa_cons (wp_v 2) wa_nil)) ⟨T.all, hb.2, hz⟩ pass0))) ?_
    rw [T.home b hb.2]
    rfl
  obtain ⟨rfl, rfl⟩ := hP
  exact wss_one (ws_fld 0 kf.tree kf.hung rfl rfl (by simp) (by decide) (wp_v 1) rfl)
end
end FV
set_option Elab.async false
set_option linter.all false
set_option maxRecDepth 100000
set_option maxHeartbeats 4000000
/-! Defs, fifth part: pictures. -/
namespace FV
open PySem PySem.Spec PyProof.Rows L2
theorem asc_zip : ∀ l : List (Nat × Nat), (l.zip (l.drop 1)).all (fun q => pLt q.1 q.2) = ascP l
  | [] => rfl
  | [x] => rfl
  | x :: y :: r => by
    have h := asc_zip (y :: r)
    unfold ascP
    rw [← h]
    rfl
theorem nd_len {α : Type} [BEq α] [LawfulBEq α] : ∀ {l m : List α}, l.Nodup → (∀ x ∈ l, x ∈ m) → l.length ≤ m.length
  | [], _, _, _ => Nat.zero_le _
  | x :: l, m, nd, h => by
    have n2 := List.nodup_cons.mp nd
    have hx := h x List.mem_cons_self
    have h1 : l.length ≤ (m.erase x).length := nd_len n2.2 fun y hy => by
      have : y ≠ x := fun z => n2.1 (by rw [← z]; exact hy)
      exact (List.mem_erase_of_ne this).mpr (h y (List.mem_cons_of_mem _ hy))
    rw [List.length_erase_of_mem hx] at h1
    have : 0 < m.length := List.length_pos_of_mem hx
    rw [List.length_cons]
    omega
/-- a picture the program takes -/
structure Pc (Q : Pic) : Prop where
  view : Q.view.1 ≤ 4 ∧ Q.view.2 ≤ 4
  one : 1 ≤ Q.blocks
  most : Q.blocks ≤ 15
  form : ∀ q ∈ Q.told, q.1 ≤ Q.blocks ∧ formB Q.view Q.blocks q.1 q.2 = true
  asc : (Q.told.map (·.1)).Pairwise (· < ·)
  head : 0 ∈ Q.told.map (·.1)
theorem look_mem {β : Type} : ∀ {l : List (Nat × β)} {q : Nat × β}, (l.map (·.1)).Nodup → q ∈ l → l.lookup q.1 = some q.2
  | (j, x) :: l, q, nd, h => by
    rw [List.lookup_cons]
    rcases List.mem_cons.mp h with h | h
    · rw [h]
      simp
    · have n2 := List.nodup_cons.mp nd
      have : q.1 ≠ j := fun z => n2.1 (by
        show j ∈ l.map (·.1)
        rw [← z]
        exact List.mem_map.mpr ⟨q, h, rfl⟩)
      have e : (q.1 == j) = false := by simpa using this
      rw [e]
      exact look_mem n2.2 h
theorem look_some {β : Type} {k : Nat} : ∀ {l : List (Nat × β)}, (l.lookup k).isSome = (l.map (·.1)).contains k
  | [] => rfl
  | (j, x) :: l => by
    rw [List.lookup_cons, List.map_cons, List.contains_cons]
    cases h : (k == j) with
    | true => rfl
    | false =>
      rw [Bool.false_or]
      exact look_some
theorem Pc.nd {Q : Pic} (h : Pc Q) : (Q.told.map (·.1)).Nodup := h.asc.imp fun a => Nat.ne_of_lt a
theorem Pc.told_len {Q : Pic} (h : Pc Q) : Q.told.length ≤ 16 := by
  have h2 : (Q.told.map (·.1)).length ≤ (List.range (Q.blocks + 1)).length := by
    refine nd_len h.nd fun x hx => ?_
    obtain ⟨q, hq, rfl⟩ := List.mem_map.mp hx
    have := (h.form q hq).1
    rw [List.mem_range]
    omega
  have := h.most
  rw [List.length_map, List.length_range] at h2
  omega
/-- the keys' order -/
theorem keys_asc {l : List Nat} (h : l.Pairwise (· < ·)) : (l.map fun n : Nat => (n : Int)).Pairwise (· ≤ ·) := by
  rw [List.pairwise_map]
  exact h.imp fun a => by omega
section
variable {P : Program} {W : World} {K : PySem.W.Frag} {mg : Str → Option Value} {base : Heap} {cl : Nat → Addr}
section
variable (P : Program) (W : World) (K : PySem.W.Frag) (mg : Str → Option Value) (base : Heap) (cl : Nat → Addr)
abbrev C_is_ascending : Prop := ∀ l : List (Nat × Nat), CX1 P W K mg base 1 "is_ascending" ["items"] (PX K cl [.tup (l.map eP)] (l.length ≤ 1000) (.bl (ascP l)))
abbrev C_is_tie : Prop := ∀ (n : Nat) (q : Nat × Nat), CX1 P W K mg base 3 "is_tie" ["blocks", "thing"] (PX K cl [eN n, eP q] True (.bl (decide (1 ≤ q.1 ∧ q.1 ≤ n ∧ q.2 ≤ n))))
abbrev C_has_form : Prop := ∀ (v : Nat × Nat) (n p : Nat) (t : Tel), CX1 P W K mg base 4 "has_form" ["view", "blocks", "place", "thing"] (PX K cl [eP v, eN n, eN p, eT t] (formB v n p t = true ∧ t.1.length ≤ 1000 ∧ t.2.length ≤ 1000) (.bl true))
abbrev K_Picture : Prop := ∀ (Q : Pic), KCal P W K mg base CX0 5 (cl 1) "Picture" ["self", "view", "blocks", "told"] (spI K cl 1 [eP Q.view, eN Q.blocks, eD eT Q.told] (Pc Q) ["view", "blocks", "told"] [eP Q.view, eN Q.blocks, eD eT Q.told])
abbrev C_without : Prop := ∀ (Q : Pic) (l : List Nat), CX1 P W K mg base 7 "without" ["picture", "blocks"] (PX K cl [ePic Q, eNs l] (Pc Q ∧ 0 ∉ l) (ePic (FV.without Q l)))
abbrev C_does_fit : Prop := ∀ (Q : Pic) (h : List Nat), CX1 P W K mg base 4 "does_fit" ["picture", "hung"] (PX K cl [ePic Q, eNs h] (Pc Q ∧ (h.length = Q.blocks → Tr h)) (.bl (doesFit Q h)))
end
theorem ok_is_ascending {f : Addr} {fd : FuncData} (B : Bl mg) (F : FnA K "is_ascending" "is_ascending" s_is_ascending f fd) (l : List (Nat × Nat)) : FnOk P W K mg base CX0 1 f fd ["items"] (PX K cl [.tup (l.map eP)] (l.length ≤ 1000) (.bl (ascP l))) := by
  refine fn_px F sc_is_ascending rfl fun hl cdv A outer s H E hr => ?_
  refine wss_one (ws_ret (wp_allB (xs := l.zip (l.drop 1)) (f := fun q => pLt q.1 q.2) B rfl (wp_lcm (enc := fun q => .tup [eP q.1, eP q.2]) (ra := fun q => [.d (.tup (l.map eP)), .d (eP q.1), .d (eP q.2)]) [("one", 1), ("other", 2)] rfl sc_is_ascending.nd (blk : BlkOk N_is_ascending (defScope s_is_ascending) _ _) ?_ (wi_is (wi_zipT B (wp_v 0) (wp_slT (wp_v 0) (wo_some (wp_k 1)) wo_none)) ?_) (fun i hi => hi) (fun q hq _ _ _ _ _ => wg_two rfl (wg_n 1 sc_is_ascending.nd) (wg_n 2 sc_is_ascending.nd)) (fun q hq _ _ _ _ _ => wp_ltP hr (wp_v 1) (wp_v 2)))) ?_)
  · rw [List.length_zip]
    omega
  · rw [cut_from, List.zip_map, List.map_map]
    rfl
  · rw [asc_zip]
theorem ok_is_tie {f : Addr} {fd : FuncData} (B : Bl mg) (C1 : C_is_pair P W K mg base cl) (C2 : C_is_within P W K mg base cl) (F : FnA K "is_tie" "is_tie" s_is_tie f fd) (n : Nat) (q : Nat × Nat) : FnOk P W K mg base CX0 3 f fd ["blocks", "thing"] (PX K cl [eN n, eP q] True (.bl (decide (1 ≤ q.1 ∧ q.1 ≤ n ∧ q.2 ≤ n)))) := by
  refine fn_px F sc_is_tie rfl fun _ cdv A outer s H E hr => ?_
  refine wss_one (ws_ret (wp_and (t := true) (u := (decide (1 ≤ q.1) && decide (q.1 ≤ n)) && (decide (0 ≤ q.2) && decide (q.2 ≤ n))) (wp_px (C1 [eN q.1, eN q.2]) hr (by omega) (wa_cons (wp_v 1) wa_nil) trivial pass0) fun _ => wp_and (wp_px (C2 q.1 1 n) hr (by omega) (wa_cons (wp_ixT (wp_v 1) (wp_k 0) rfl) (wa_cons (wp_k 1) (wa_cons (wp_v 0) wa_nil))) trivial pass0) fun _ => wp_one (wp_px (C2 q.2 0 n) hr (by omega) (wa_cons (wp_ixT (wp_v 1) (wp_k 1) rfl) (wa_cons (wp_k 0) (wa_cons (wp_v 0) wa_nil))) trivial pass0)) ?_)
  show Sl.d (D.bl _) = Sl.d (D.bl _)
  congr 2
  rw [Bool.eq_iff_iff]
  simp
  omega
theorem ok_has_form {f : Addr} {fd : FuncData} (B : Bl mg) (G : Gn mg) (C1 : C_is_pair P W K mg base cl) (C2 : C_is_within P W K mg base cl) (C3 : C_is_tie P W K mg base cl) (C4 : C_is_ascending P W K mg base cl) (F : FnA K "has_form" "has_form" s_has_form f fd) (v : Nat × Nat) (n p : Nat) (t : Tel) : FnOk P W K mg base CX0 4 f fd ["view", "blocks", "place", "thing"] (PX K cl [eP v, eN n, eN p, eT t] (formB v n p t = true ∧ t.1.length ≤ 1000 ∧ t.2.length ≤ 1000) (.bl true)) := by
  refine fn_px F sc_has_form rfl fun ⟨hf, l1, l2⟩ cdv A outer s H E hr => ?_
  unfold formB at hf
  rw [Bool.and_eq_true, Bool.and_eq_true, Bool.and_eq_true] at hf
  obtain ⟨⟨⟨f1, f2⟩, f3⟩, f4⟩ := hf
  refine wss_cons (ws_if (t := false) ?_ (fun z => by cases z) fun _ => wss_nil ?_)
  · exact wt_ww (ww_or (t := false) (u := false) (wt_not (t := true) (wt_val (wp_px (C1 [eNs t.1, .tup (t.2.map eP)]) hr (by omega) (wa_cons (wp_v 3) wa_nil) trivial pass0))) fun _ => ww_or (t := false) (u := false) (wt_not (t := true) (wt_val (wp_isi_tup B (wp_ixT (wp_v 3) (wp_k 0) rfl)))) fun _ => ww_or1 (wt_not (t := true) (wt_val (wp_isi_tup B (wp_ixT (wp_v 3) (wp_k 1) rfl)))))
  refine wss_cons (ws_asg (wp_v 3) (wg_two rfl (wg_n 4 sc_has_form.nd) (wg_n 5 sc_has_form.nd)) ?_)
  refine wss_cons (ws_setp 6 sc_has_form.nd (wp_if (d := eN (if p = 0 then 0 else v.1)) (wt_neN (wp_v 2) (wp_gint G.head)) (fun h => wp_is (wp_ixT (wp_v 0) (wp_k 0) (z := eN v.1) rfl) ?_) (fun h => wp_is (wp_k 0) ?_)) ?_)
  · rw [if_neg (by simpa using h)]
  · rw [if_pos (by simpa using h)]
  refine wss_cons (ws_if (t := false) ?_ (fun z => by cases z) fun _ => wss_nil ?_)
  · refine wt_is (wt_ww (ww_or (wt_gtN (wp_lenTm B (wp_v 4)) (wp_v 6)) fun _ => ww_or1 (wt_not (wt_val (wp_allB (xs := t.1) (f := fun x => decide (0 ≤ x) && decide (x ≤ n)) B rfl (wp_lcm (enc := eN) (ra := fun x => [.d (eP v), .d (eN n), .d (eN p), .d (eT t), .d (eNs t.1), .d (.tup (t.2.map eP)), .d (eN (if p = 0 then 0 else v.1)), .d (eN x)]) [("item", 7)] rfl sc_has_form.nd (blk : BlkOk N_has_form (defScope s_has_form) _ _) (by omega) (wi_T (wp_v 4)) (fun i hi => hi) (fun x hx _ _ _ _ _ => wg_n 7 sc_has_form.nd) (fun x hx _ _ _ _ _ => ?_))))))) ?_
    · exact wp_px (C2 x 0 n) hr (by omega) (wa_cons (wp_v 7) (wa_cons (wp_k 0) (wa_cons (wp_v 1) wa_nil))) trivial pass0
    · rw [Bool.or_eq_false_iff]
      refine ⟨decide_eq_false (Nat.not_lt.mpr (of_decide_eq_true f1)), ?_⟩
      have : (t.1.all fun x => decide (0 ≤ x) && decide (x ≤ n)) = true := by simpa using f2
      rw [this]
      rfl
  refine wss_one (ws_ret (wp_and (t := true) (u := true) (wp_is (wp_allB (xs := t.2) (f := fun q => decide (1 ≤ q.1 ∧ q.1 ≤ n ∧ q.2 ≤ n)) B rfl (wp_lcm (enc := eP) (ra := fun x => [.d (eP v), .d (eN n), .d (eN p), .d (eT t), .d (eNs t.1), .d (.tup (t.2.map eP)), .d (eN (if p = 0 then 0 else v.1)), .d (eP x)]) [("item", 7)] rfl sc_has_form.nd (blk : BlkOk N_has_form (defScope s_has_form) _ _) (by omega) (wi_T (wp_v 5)) (fun i hi => hi) (fun x hx _ _ _ _ _ => wg_n 7 sc_has_form.nd) (fun x hx _ _ _ _ _ => ?_))) (congrArg D.bl f3)) fun _ => wp_one (wp_is (wp_px (C4 t.2) hr (by omega) (wa_cons (wp_v 5) wa_nil) l2 pass0) (congrArg D.bl f4))) rfl)
  exact wp_px (C3 n x) hr (by omega) (wa_cons (wp_v 1) (wa_cons (wp_v 7) wa_nil)) trivial pass0

theorem told_ks {β : Type} (l : List (Nat × β)) : (l.map fun q => (q.1 : Int)) = (l.map (·.1)).map fun n : Nat => (n : Int) := by rw [List.map_map]; rfl
theorem told_ints {β : Type} (l : List (Nat × β)) : (l.map fun q => (q.1 : Int)).map D.int = l.map fun q => eN q.1 := by rw [List.map_map]; rfl
/-- sorted(told) -/
theorem wp_sortK {X : Cx} {r : List Sl} {w : List Ow} {a : Expr} {pos p : Pos} {β : Type} {enc : β → D} {l : List (Nat × β)} (B : Bl X.mg) (hc : X.calm = true) (hs : (l.map (·.1)).Pairwise (· < ·)) (hl : l.length < 64) (ha : WP cl X r w a (eD enc l)) (hg : Gl X "sorted" := by rfl) (he : starEach [a] X.env = (false, eval a X.env) :: starEach [] X.env := by rfl) (hpl : (backTo pos (starEach [] X.env)).any (·.1) = false := by rfl) : WP cl X r w (.Call (.Name "sorted" p) [a] [] pos) (.lst (l.map fun q => eN q.1)) :=
  wp_is (wp_sortedD (ms := l.map fun q => (q.1 : Int)) B hc ha (.refl _) (by rw [told_ks]; exact keys_asc hs) (by rw [List.length_map]; exact hl) hg he hpl) (by rw [told_ints])
theorem asc_short : ∀ {l : List (Nat × Nat)} {n : Nat}, ascP l = true → True
  | _, _, _ => trivial
theorem form_len {v : Nat × Nat} {n p : Nat} {t : Tel} (h : formB v n p t = true) (hv : v.1 ≤ 4) (hn : n ≤ 15) : t.1.length ≤ 1000 ∧ t.2.length ≤ 1000 := by
  unfold formB at h
  rw [Bool.and_eq_true, Bool.and_eq_true, Bool.and_eq_true] at h
  obtain ⟨⟨⟨f1, f2⟩, f3⟩, f4⟩ := h
  constructor
  · have := of_decide_eq_true f1
    split at this <;> omega
  · have nd : ∀ l : List (Nat × Nat), ascP l = true → l.Pairwise fun a b => pLt a b = true := by
      intro l
      induction l with
      | nil => exact fun _ => .nil
      | cons x l ih =>
        intro h
        cases l with
        | nil => simp
        | cons y r =>
          unfold ascP at h
          rw [Bool.and_eq_true] at h
          have ih2 := ih h.2
          have hxy : pLt x y = true := h.1
          refine List.pairwise_cons.mpr ⟨fun z hz => ?_, ih2⟩
          rcases List.mem_cons.mp hz with rfl | hz
          · exact hxy
          · have hyz := (List.pairwise_cons.mp ih2).1 z hz
            unfold pLt at hxy hyz ⊢
            rw [Bool.and_eq_true] at hxy hyz ⊢
            refine ⟨pLe_trans _ _ _ hxy.1 hyz.1, ?_⟩
            have ne : x ≠ z := fun e => by
              subst e
              have := pLe_anti _ _ hxy.1 hyz.1
              rw [this] at hxy
              simp at hxy
            simpa using ne
    have nd2 : t.2.Nodup := (nd t.2 f4).imp fun {a b} h e => by
      rw [e] at h
      unfold pLt at h
      simp at h
    have h3 : t.2.length ≤ ((List.range 16).flatMap fun a => (List.range 16).map fun b => (a, b)).length := nd_len nd2 fun q hq => by
      have := List.all_eq_true.mp f3 q hq
      have := of_decide_eq_true this
      rw [List.mem_flatMap]
      refine ⟨q.1, by rw [List.mem_range]; omega, ?_⟩
      rw [List.mem_map]
      exact ⟨q.2, by rw [List.mem_range]; omega, rfl⟩
    have h4 : ((List.range 16).flatMap fun a => (List.range 16).map fun b => (a, b)).length = 256 := by decide +kernel
    omega
theorem ok_Picture_init {f : Addr} {fd : FuncData} (B : Bl mg) (G : Gn mg) (kf : Kf K cl) (C1 : C_is_view P W K mg base cl) (C2 : C_is_within P W K mg base cl) (C3 : C_has_form P W K mg base cl) (F : FnA K "__init__" "Picture.__init__" s_Picture_init f fd) (Q : Pic) : FnOk P W K mg base CX0 5 f fd ["self", "view", "blocks", "told"] (spI K cl 1 [eP Q.view, eN Q.blocks, eD eT Q.told] (Pc Q) ["view", "blocks", "told"] [eP Q.view, eN Q.blocks, eD eT Q.told]) := by
  refine fn_init F sc_Picture_init rfl fun hQ cdv A outer s H E hr => ?_
  have hv := hQ.view
  have h1 := hQ.one
  have h2 := hQ.most
  have htl := hQ.told_len
  refine wss_cons (ws_if (t := false) ?_ (fun z => by cases z) fun _ => wss_nil ?_)
  · refine wt_is (wt_not (wt_val (wp_px (C1 Q.view) hr (by omega) (wa_cons (wp_v 1) wa_nil) trivial pass0))) ?_
    simp
    exact hv
  refine wss_cons (ws_if (t := false) ?_ (fun z => by cases z) fun _ => wss_nil ?_)
  · refine wt_is (wt_not (wt_val (wp_px (C2 Q.blocks 1 40) hr (by omega) (wa_cons (wp_v 2) (wa_cons (wp_k 1) (wa_cons (wp_gint G.mbc) wa_nil))) trivial pass0))) ?_
    simp
    omega
  refine wss_cons (ws_if (t := false) ?_ (fun z => by cases z) fun _ => wss_nil ?_)
  · refine wt_is (wt_ww (ww_or (wt_not (wt_val (wp_isi_dic B (wp_v 3)))) fun _ => ww_or (wt_not (wt_val (wp_allB (xs := Q.told) (f := fun q => decide (0 ≤ q.1) && decide (q.1 ≤ Q.blocks)) B rfl ?_))) fun _ => ww_or1 (wt_dniN hr (wp_gint G.head) (wp_v 3)))) ?_
    · refine wp_is (wp_lcK (xs := Q.told) (f := fun _ => true) (enc := fun q => eN q.1) (g := fun q => .bl (decide (0 ≤ q.1) && decide (q.1 ≤ Q.blocks))) (ra := fun q => [.o 0, .d (eP Q.view), .d (eN Q.blocks), .d (eD eT Q.told), .d (eN q.1)]) [("place", 4)] rfl sc_Picture_init.nd (blk : BlkOk N_Picture_init (defScope s_Picture_init) _ _) (by omega) (dat_v 3) (told_ints _) (fun i hi => hi) (fun x hx _ _ _ _ _ => wg_n 4 sc_Picture_init.nd) (fun x hx _ _ _ _ _ => wts_nil) (fun x hx _ _ _ _ _ _ => ?_)) (by rw [List.filter_eq_self.mpr (fun _ _ => rfl)])
      exact wp_px (C2 x.1 0 Q.blocks) hr (by omega) (wa_cons (wp_v 4) (wa_cons (wp_k 0) (wa_cons (wp_v 2) wa_nil))) trivial pass0
    · have e1 : (Q.told.all fun q => decide (0 ≤ q.1) && decide (q.1 ≤ Q.blocks)) = true := by
        rw [List.all_eq_true]
        intro q hq
        have := (hQ.form q hq).1
        simp
        omega
      have e2 : (Q.told.lookup 0).isSome = true := by
        rw [look_some]
        exact List.contains_iff_mem.mpr hQ.head
      rw [e1, e2]
      rfl
  refine wss_cons (ws_for PassesOwn.never rfl (wi_L (wp_sortK B rfl hQ.asc (by omega) (wp_v 3))) (fun i r1 w1 => r1 = [.o 0, .d (eP Q.view), .d (eN Q.blocks), .d (eD eT Q.told), .u] ∧ w1 = [.ins 1 [] []]) ⟨rfl, rfl⟩ (fun i x r1 w1 e hP => ?_) fun r1 w1 hP => ?_)
  · obtain ⟨rfl, rfl⟩ := hP
    obtain ⟨q, hq, rfl⟩ : ∃ q, q ∈ Q.told ∧ eN q.1 = x := by
      rw [List.getElem?_map] at e
      obtain ⟨b, g1, g2⟩ := Option.map_eq_some_iff.mp e
      exact ⟨b, List.mem_of_getElem? g1, g2⟩
    have fq := hQ.form q hq
    refine ⟨_, _, wg_n 4 sc_Picture_init.nd, wss_one (ws_if (t := false) ?_ (fun z => by cases z) fun _ => wss_nil ⟨_, .same (.same (.same (.same (.u .nil)))), rfl, rfl⟩)⟩
    exact wt_not (t := true) (wt_val (wp_px (C3 Q.view Q.blocks q.1 q.2) hr (by omega) (wa_cons (wp_v 1) (wa_cons (wp_v 2) (wa_cons (wp_v 4) (wa_cons (wp_dgetN hr (wp_v 3) (wp_v 4) (look_mem hQ.nd hq)) wa_nil)))) ⟨fq.2, form_len fq.2 hv.1 h2⟩ pass0))
  obtain ⟨rfl, rfl⟩ := hP
  refine wss_cons (ws_fld 0 kf.pic kf.view rfl rfl (by simp) (by decide) (wp_v 1) ?_)
  refine wss_cons (ws_fld 0 kf.pic kf.pblocks rfl rfl (by decide) (by decide) (wp_v 2) ?_)
  exact wss_one (ws_fld 0 kf.pic kf.told rfl rfl (by decide) (by decide) (wp_dictD B (wp_v 3)) rfl)

theorem pc_without {Q : Pic} (h : Pc Q) {l : List Nat} (h0 : 0 ∉ l) : Pc (FV.without Q l) where
  view := h.view
  one := h.one
  most := h.most
  form q hq := h.form q (List.mem_filter.mp hq).1
  asc := by
    have : ((FV.without Q l).told.map (·.1)).Sublist (Q.told.map (·.1)) := List.filter_sublist.map _
    exact h.asc.sublist this
  head := by
    obtain ⟨q, hq, e⟩ := List.mem_map.mp h.head
    refine List.mem_map.mpr ⟨q, List.mem_filter.mpr ⟨hq, ?_⟩, e⟩
    rw [e]
    simp [h0]
theorem ok_without {f : Addr} {fd : FuncData} (B : Bl mg) (kf : Kf K cl) (C1 : K_Picture P W K mg base cl) (F : FnA K "without" "without" s_without f fd) (Q : Pic) (l : List Nat) : FnOk P W K mg base CX0 7 f fd ["picture", "blocks"] (PX K cl [ePic Q, eNs l] (Pc Q ∧ 0 ∉ l) (ePic (FV.without Q l))) := by
  refine fn_px F sc_without rfl fun ⟨hQ, h0⟩ cdv A outer s H E hr => ?_
  have htl := hQ.told_len
  have en : dD (dacc (fun q : Nat × Tel => (q.1 : Int)) (fun q => eT q.2) (Q.told.filter fun q => !l.contains q.1)) = eD eT (FV.without Q l).told := by
    rw [dacc_new]
    · show D.dic _ _ = D.dic _ _
      rw [List.map_map, List.map_map]
      rfl
    · have nd := (pc_without hQ h0).nd
      have e : (Q.told.filter fun q => !l.contains q.1).map (fun q => (q.1 : Int)) = ((FV.without Q l).told.map (·.1)).map fun n : Nat => (n : Int) := by
        rw [List.map_map]
        rfl
      rw [e]
      exact nd.map _ fun a b h z => h (by omega)
  refine wss_cons (ws_setDcK 2 (xs := Q.told) (f := fun q => !l.contains q.1) (enc := fun q => eN q.1) (key := fun q => (q.1 : Int)) (val := fun q => eT q.2) (ra := fun q => [.d (ePic Q), .d (eNs l), .u, .d (eN q.1)]) [("place", 3)] rfl sc_without.nd (blk : BlkOk N_without (defScope s_without) _ _) (by omega) (dat_f 0 kf.pic kf.told rfl) (told_ints _) (fun i hi => hi) (fun x hx _ _ _ _ _ => wg_n 3 sc_without.nd) (fun x hx _ _ _ _ _ => wts_one (wt_niTN (wp_v 3) (wp_v 1))) (fun x hx _ _ _ _ _ _ => wp_v 3) (fun x hx _ _ _ _ _ _ => wp_dgetN hr (wp_fld kf.pic kf.told (wp_v 0) rfl) (wp_v 3) (look_mem hQ.nd hx)) ?_)
  rw [en]
  exact wss_one (ws_ret (wp_make (C1 (FV.without Q l)) hr (wa_cons (wp_fld kf.pic kf.view (wp_v 0) rfl) (wa_cons (wp_fld kf.pic kf.pblocks (wp_v 0) rfl) (wa_cons (wp_v 2) wa_nil))) (pc_without hQ h0) pass0) rfl)
theorem tel_eqv (x y : Tel) : PyData.eqv (pyD (eT x)) (pyD (eT y)) = (x == y) := by
  rw [Bool.eq_iff_iff, eqv_T]
  simp
theorem ok_does_fit {f : Addr} {fd : FuncData} (B : Bl mg) (kf : Kf K cl) (C1 : C_raw_telling P W K mg base cl) (F : FnA K "does_fit" "does_fit" s_does_fit f fd) (Q : Pic) (h : List Nat) : FnOk P W K mg base CX0 4 f fd ["picture", "hung"] (PX K cl [ePic Q, eNs h] (Pc Q ∧ (h.length = Q.blocks → Tr h)) (.bl (doesFit Q h))) := by
  refine fn_px F sc_does_fit rfl fun ⟨hQ, hT⟩ cdv A outer s H E hr => ?_
  have htl := hQ.told_len
  refine wss_cons (ws_if (wt_neN (wp_lenTm B (wp_v 1)) (wp_fld kf.pic kf.pblocks (wp_v 0) rfl)) (fun z => ?_) fun z => wss_nil ?_)
  · refine wss_one (ws_ret wp_bl ?_)
    have : ¬ h.length = Q.blocks := by simpa using z
    show Sl.d (D.bl _) = Sl.d (D.bl _)
    unfold doesFit
    rw [decide_eq_false this]
    rfl
  · have hl : h.length = Q.blocks := by simpa using z
    have T := hT hl
    refine wss_one (ws_ret (wp_allB (xs := Q.told) (f := fun q => rawTel h Q.view q.1 == q.2) B rfl (wp_lcm (enc := fun q => eN q.1) (ra := fun q => [.d (ePic Q), .d (eNs h), .d (eN q.1)]) [("place", 2)] rfl sc_does_fit.nd (blk : BlkOk N_does_fit (defScope s_does_fit) _ _) (by omega) (wi_L (wp_sortK B rfl hQ.asc (by omega) (wp_fld kf.pic kf.told (wp_v 0) rfl))) (fun i hi => hi) (fun x hx _ _ _ _ _ => wg_n 2 sc_does_fit.nd) (fun x hx _ _ _ _ _ => ?_))) ?_)
    · exact wp_eqD hr (wp_px (C1 h Q.view x.1) hr (by omega) (wa_cons (wp_v 1) (wa_cons (wp_fld kf.pic kf.view (wp_v 0) rfl) (wa_cons (wp_v 2) wa_nil))) ⟨T, by rw [hl]; exact (hQ.form x hx).1, by rw [hl]; exact hQ.most, hQ.view.2⟩ pass0) (wp_dgetN hr (wp_fld kf.pic kf.told (wp_v 0) rfl) (wp_v 2) (look_mem hQ.nd hx)) (sh_eT _) (sh_eT _) (tel_eqv _ _)
    · show Sl.d (D.bl _) = Sl.d (D.bl _)
      unfold doesFit
      rw [decide_eq_true hl, Bool.true_and]
end
end FV
set_option Elab.async false
set_option linter.all false
set_option maxRecDepth 100000
set_option maxHeartbeats 4000000
/-! Defs, sixth part: losses. -/
namespace FV
open PySem PySem.Spec PyProof.Rows L2
theorem pc_lens {Q : Pic} (h : Pc Q) {q : Nat × Tel} (hq : q ∈ Q.told) : q.2.1.length ≤ 1000 ∧ q.2.2.length ≤ 1000 := form_len (h.form q hq).2 h.view.1 h.most
def tieRow (q : Nat × Tel) : List (Nat × Nat) := q.2.2 ++ (q.1 :: q.2.1).zip q.2.1
theorem rows_len : ∀ (l : List (Nat × Tel)), (∀ q ∈ l, q.2.1.length ≤ 1000 ∧ q.2.2.length ≤ 1000) → (l.flatMap tieRow).length ≤ l.length * 2000
  | [], _ => by simp
  | q :: l, h => by
    have h1 := rows_len l fun x hx => h x (List.mem_cons_of_mem _ hx)
    have h2 := h q List.mem_cons_self
    have h3 : (tieRow q).length ≤ 2000 := by
      unfold tieRow
      rw [List.length_append, List.length_zip]
      omega
    rw [List.flatMap_cons, List.length_append, List.length_cons, Nat.succ_mul]
    omega
def dOpt {α : Type} (f : α → D) : Option α → D
  | none => .non
  | some x => f x
section
variable {P : Program} {W : World} {K : PySem.W.Frag} {mg : Str → Option Value} {base : Heap} {cl : Nat → Addr}
section
variable (P : Program) (W : World) (K : PySem.W.Frag) (mg : Str → Option Value) (base : Heap) (cl : Nat → Addr)
abbrev C_told_ties : Prop := ∀ (Q : Pic), CX1 P W K mg base 1 "told_ties" ["picture"] (PX K cl [ePic Q] (Pc Q) (.lst ((toldTies Q).map eP)))
abbrev C_ties_known : Prop := ∀ (Q : Pic), CX1 P W K mg base 2 "ties_known" ["picture"] (PX K cl [ePic Q] (Pc Q) (dOpt (eD eN) (tiesKnown Q)))
abbrev C_way_up : Prop := ∀ (ties : List (Nat × Nat)) (p k : Nat), CX1 P W K mg base 1 "way_up" ["ties", "place", "most"] (PX K cl [eD eN ties, eN p, eN k] (k ≤ 1000) (dOpt lNs (wayU ties (k + 1) p)))
end
theorem ok_told_ties {f : Addr} {fd : FuncData} (B : Bl mg) (kf : Kf K cl) (F : FnA K "told_ties" "told_ties" s_told_ties f fd) (Q : Pic) : FnOk P W K mg base CX0 1 f fd ["picture"] (PX K cl [ePic Q] (Pc Q) (.lst ((toldTies Q).map eP))) := by
  refine fn_px F sc_told_ties rfl fun hQ cdv A outer s H E hr => ?_
  have htl := hQ.told_len
  refine wss_cons (ws_newL 1 sc_told_ties.nd wa_nil (by decide) ?_)
  refine wss_cons (ws_for PassesOwn.never rfl (wi_L (wp_sortK B rfl hQ.asc (by omega) (wp_fld kf.pic kf.told (wp_v 0) rfl))) (fun i r1 w1 => ∃ x2 x3 x4 x5 x6, r1 = [.d (ePic Q), .o 0, x2, x3, x4, x5, x6] ∧ w1 = [.lst (((Q.told.take i).flatMap tieRow).map eP)]) ⟨_, _, _, _, _, rfl, rfl⟩ (fun i x r1 w1 e hP => ?_) fun r1 w1 hP => ?_)
  · obtain ⟨x2, x3, x4, x5, x6, rfl, rfl⟩ := hP
    obtain ⟨q, hq0, rfl⟩ : ∃ q, Q.told[i]? = some q ∧ eN q.1 = x := by
      rw [List.getElem?_map] at e
      exact Option.map_eq_some_iff.mp e
    have hq := List.mem_of_getElem? hq0
    have lens := pc_lens hQ hq
    have l1 := rows_len (Q.told.take i) fun x hx => pc_lens hQ (List.mem_of_mem_take hx)
    have l2 : (Q.told.take i).length ≤ 16 := by
      rw [List.length_take]
      omega
    have l3 := Nat.mul_le_mul_right 2000 l2
    refine ⟨_, _, wg_n 2 sc_told_ties.nd, ?_⟩
    refine wss_cons (ws_asg (d := .tup [eNs q.2.1, .tup (q.2.2.map eP)]) (wp_dgetN (enc := eT) (x := q.2) hr (wp_fld kf.pic kf.told (wp_v 0) rfl) (wp_v 2) (look_mem hQ.nd hq)) (wg_two rfl (wg_n 3 sc_told_ties.nd) (wg_n 4 sc_told_ties.nd)) ?_)
    refine wss_cons (ws_extendT 1 rfl rfl (wp_v 4) (by rw [List.length_map, List.length_map]; omega) ?_)
    refine wss_one (ws_extendL 1 rfl rfl (wp_lcm (xs := (q.1 :: q.2.1).zip q.2.1) (enc := fun y => .tup [eN y.1, eN y.2]) (ra := fun y => [.d (ePic Q), .o 0, .d (eN q.1), .d (eNs q.2.1), .d (.tup (q.2.2.map eP)), .d (eN y.1), .d (eN y.2)]) (g := eP) [("block", 5), ("here", 6)] rfl sc_told_ties.nd (blk : BlkOk N_told_ties (defScope s_told_ties) _ _) ?_ (wi_is (wi_zipT B (wp_catT (wp_tup (wa_cons (wp_v 2) wa_nil) (by show 1 ≤ 100000; decide)) (wp_v 3) ?_) (wp_v 3)) ?_) (fun i hi => hi) (fun y hy _ _ _ _ _ => wg_two rfl (wg_n 5 sc_told_ties.nd) (wg_n 6 sc_told_ties.nd)) (fun y hy _ _ _ _ _ => wp_tup (wa_cons (wp_v 5) (wa_cons (wp_v 6) wa_nil)) (by show 2 ≤ 100000; decide))) ?_ ⟨_, .refl _, _, _, _, _, _, rfl, ?_⟩)
    · rw [List.length_zip]
      omega
    · rw [List.length_map]
      show 1 + q.2.1.length ≤ 100000
      omega
    · show ((([eN q.1] ++ q.2.1.map eN).zip (q.2.1.map eN)).map _) = _
      have : [eN q.1] ++ q.2.1.map eN = (q.1 :: q.2.1).map eN := rfl
      rw [this, List.zip_map, List.map_map]
      rfl
    · rw [List.length_append, List.length_map, List.length_map, List.length_map, List.length_zip]
      omega
    · have et : Q.told.take (i + 1) = Q.told.take i ++ [q] := by rw [List.take_add_one, hq0]; rfl
      rw [et, List.flatMap_append]
      simp [tieRow]
  · obtain ⟨x2, x3, x4, x5, x6, rfl, rfl⟩ := hP
    refine wss_one (ws_retO 1 0 rfl rfl rfl (Nat.zero_le _) ?_)
    rw [List.length_map, List.take_length]
    rfl
theorem tiesK_acc : ∀ (l acc res : List (Nat × Nat)), tiesK l acc = some res → res.length ≤ acc.length + l.length
  | [], acc, res, h => by
    cases h
    simp
  | (b, p) :: l, acc, res, h => by
    unfold tiesK at h
    split at h
    · cases h
    · split at h
      · split at h
        · have := tiesK_acc l acc res h
          rw [List.length_cons]
          omega
        · cases h
      · have := tiesK_acc l _ res h
        rw [List.length_append, List.length_singleton] at this
        rw [List.length_cons]
        omega
theorem ok_ties_known {f : Addr} {fd : FuncData} (B : Bl mg) (G : Gn mg) (C1 : C_told_ties P W K mg base cl) (F : FnA K "ties_known" "ties_known" s_ties_known f fd) (Q : Pic) : FnOk P W K mg base CX0 2 f fd ["picture"] (PX K cl [ePic Q] (Pc Q) (dOpt (eD eN) (tiesKnown Q))) := by
  refine fn_px F sc_ties_known rfl fun hQ cdv A outer s H E hr => ?_
  have htl := hQ.told_len
  have l1 := rows_len Q.told fun x hx => pc_lens hQ hx
  have l3 := Nat.mul_le_mul_right 2000 htl
  have l4 : (toldTies Q).length ≤ 32000 := Nat.le_trans l1 (by omega)
  refine wss_cons (ws_newD 1 sc_ties_known.nd ?_)
  refine wss_cons (ws_for PassesOwn.never rfl (wi_L (wp_px (C1 Q) hr (Nat.le_refl _) (wa_cons (wp_v 0) wa_nil) hQ pass0)) (fun i r1 w1 => ∃ x2 x3 l, tiesK ((toldTies Q).drop i) l = tiesKnown Q ∧ l.length ≤ i ∧ r1 = [.d (ePic Q), .o 0, x2, x3] ∧ w1 = [.dic (l.map fun q => (q.1 : Int)) (l.map fun q => eN q.2)]) ⟨_, _, [], rfl, Nat.le_refl _, rfl, rfl⟩ (fun i x r1 w1 e hP => ?_) fun r1 w1 hP => ?_)
  · obtain ⟨x2, x3, l, hl, hli, rfl, rfl⟩ := hP
    obtain ⟨q, hq0, rfl⟩ : ∃ q, (toldTies Q)[i]? = some q ∧ eP q = x := by
      rw [List.getElem?_map] at e
      exact Option.map_eq_some_iff.mp e
    have hi := (List.getElem?_eq_some_iff.mp hq0).1
    have hd : (toldTies Q).drop i = q :: (toldTies Q).drop (i + 1) := by
      rw [List.drop_eq_getElem_cons hi]
      congr 1
      exact (List.getElem?_eq_some_iff.mp hq0).2
    rw [hd] at hl
    obtain ⟨b, p⟩ := q
    unfold tiesK at hl
    refine ⟨_, _, wg_two (x := eN b) (y := eN p) rfl (wg_n 2 sc_ties_known.nd) (wg_n 3 sc_ties_known.nd), wss_one (ws_ifSd (l := l) (j := b) (x := p) 1 rfl rfl (wt_eqN (wp_v 2) (wp_gint G.head)) (wp_v 2) (wp_v 3) (wp_v 3) (fun u => wp_v 3) (by omega) (fun h => ?_) (fun h z hz hne => ?_) (fun h hz => wss_nil ?_) fun h hz => wss_nil ?_)⟩
    · rw [if_pos (of_decide_eq_true h)] at hl
      refine wss_one (ws_ret wp_non ?_)
      rw [← hl]
      rfl
    · rw [if_neg (of_decide_eq_false h), hz] at hl
      have hl : (if z = p then _ else none) = _ := hl
      rw [if_neg hne] at hl
      refine wss_one (ws_ret wp_non ?_)
      rw [← hl]
      rfl
    · rw [if_neg (of_decide_eq_false h), hz] at hl
      have hl : (if p = p then _ else none) = _ := hl
      rw [if_pos rfl] at hl
      exact ⟨_, .refl _, _, _, l, hl, by omega, rfl, rfl⟩
    · rw [if_neg (of_decide_eq_false h), hz] at hl
      exact ⟨_, .refl _, _, _, l ++ [(b, p)], hl, by rw [List.length_append, List.length_singleton]; omega, rfl, rfl⟩
  · obtain ⟨x2, x3, l, hl, hli, rfl, rfl⟩ := hP
    rw [List.length_map, List.drop_length] at hl
    have hl : some l = _ := hl
    refine wss_one (ws_retO 1 0 rfl rfl rfl (Nat.zero_le _) ?_)
    rw [← hl]
    rfl
theorem ok_way_up {f : Addr} {fd : FuncData} (B : Bl mg) (F : FnA K "way_up" "way_up" s_way_up f fd) (ties : List (Nat × Nat)) (p k : Nat) : FnOk P W K mg base CX0 1 f fd ["ties", "place", "most"] (PX K cl [eD eN ties, eN p, eN k] (k ≤ 1000) (dOpt lNs (wayU ties (k + 1) p))) := by
  refine fn_px F sc_way_up rfl fun hk cdv A outer s H E hr => ?_
  refine wss_cons (ws_newL 3 sc_way_up.nd (ds := [eN p]) (wa_cons (wp_v 1) wa_nil) (by show 1 ≤ 100000; decide) ?_)
  refine wss_cons (ws_while PassesOwn.never (fun j r1 w1 => ∃ acc x, 1 ≤ j ∧ acc.length + j = k + 1 ∧ wayU ties (k + 1) p = (wayU ties j x).map (acc ++ ·) ∧ r1 = [.d (eD eN ties), .d (eN p), .d (eN k), .o 0] ∧ w1 = [.lst ((acc ++ [x]).map eN)]) (k + 1) ⟨[], p, by omega, by simp, by simp, rfl, rfl⟩ fun j r1 w1 hP => ?_)
  obtain ⟨acc, x, hj, hz, hw, rfl, rfl⟩ := hP
  have hlast : L2.atI ((acc ++ [x]).map eN) (-((1 : Nat) : Int)) = some (eN x) := by
    rw [List.map_append]
    exact at_last _ _
  obtain ⟨j, rfl⟩ : ∃ i, j = i + 1 := ⟨j - 1, by omega⟩
  refine ⟨_, wt_peek 3 rfl rfl (wt_dinN hr (wp_ixL (z := eN x) (wp_v 3) (wp_neg (wp_k 1)) hlast) (wp_v 0)), fun ht => ?_, fun ht => ?_⟩
  · obtain ⟨y, hy⟩ := Option.isSome_iff_exists.mp ht
    have hw2 : wayU ties (k + 1) p = (wayU ties j y).map ((acc ++ [x]) ++ ·) := by
      rw [hw]
      conv => lhs; unfold wayU
      rw [hy]
      show ((wayU ties j y).map (x :: ·)).map (acc ++ ·) = _
      rw [Option.map_map]
      congr 1
      funext l
      simp
    refine wss_cons (ws_append 3 rfl rfl (d := eN y) (wp_peek 3 rfl rfl (wp_dgetN hr (wp_v 0) (wp_ixL (z := eN x) (wp_v 3) (wp_neg (wp_k 1)) hlast) hy) rfl) ?_ ?_)
    · rw [List.length_map, List.length_append, List.length_singleton]
      omega
    · refine wss_one (ws_if (t := decide (k + 1 < acc.length + 2)) (wt_is (wt_peek 3 (u := .lst ((acc ++ [x] ++ [y]).map eN)) rfl (by simp) (wt_gtN (wp_lenLm B (wp_v 3)) (wp_addN (wp_v 2) (wp_k 1)))) (by simp)) (fun h => ?_) fun h => wss_nil ?_)
      · have : j = 0 := by
          have := of_decide_eq_true h
          omega
        subst this
        refine wss_one (ws_ret wp_non ?_)
        rw [hw2]
        rfl
      · have := of_decide_eq_false h
        refine ⟨j, _, by omega, .refl _, acc ++ [x], y, by omega, by rw [List.length_append, List.length_singleton]; omega, hw2, rfl, ?_⟩
        simp
  · have hn : ties.lookup x = none := by
      cases q : ties.lookup x with
      | none => rfl
      | some y =>
        rw [q] at ht
        cases ht
    refine wss_one (ws_retO 3 0 rfl rfl rfl (Nat.zero_le _) ?_)
    have e3 : wayU ties (j + 1) x = some [x] := by
      unfold wayU
      rw [hn]
    rw [hw, e3]
    rfl
end
end FV
set_option Elab.async false
set_option linter.all false
set_option maxRecDepth 100000
set_option maxHeartbeats 4000000
/-! Defs, seventh part: what is laid. -/
namespace FV
open PySem PySem.Spec PyProof.Rows L2
theorem zipIdx_range {α : Type} (l : List α) (d : α) : l.zipIdx = (List.range l.length).map fun i => (l.getD i d, i) := by
  apply List.ext_getElem
  · simp
  · intro i h1 h2
    simp at h1 h2 ⊢
    rw [List.getElem?_eq_getElem h1]
    rfl
theorem range_zip {α : Type} (l : List α) (d : α) : (List.range l.length).zip l = (List.range l.length).map fun i => (i, l.getD i d) := by
  apply List.ext_getElem
  · simp
  · intro i h1 h2
    simp at h1 h2 ⊢
    rw [List.getElem?_eq_getElem h1]
    rfl
theorem look_map {α : Type} (f : Nat → α) {k : Nat} : ∀ l : List Nat, (l.map fun i => (i, f i)).lookup k = if k ∈ l then some (f k) else none
  | [] => by simp
  | x :: l => by
    rw [List.map_cons, List.lookup_cons, look_map f l]
    by_cases h : k = x
    · subst h
      simp
    · have e : (k == x) = false := by simpa using h
      rw [e]
      simp [h]
theorem look_piece {l : List Nat} {p : Nat} (h : p < l.length) : ((List.range l.length).zip l).lookup p = some (l.getD p 0) := by
  rw [range_zip l 0, look_map]
  rw [if_pos (List.mem_range.mpr h)]
theorem last_ix {l : List Nat} (h : l ≠ []) : L2.atI (l.map eN) (-((1 : Nat) : Int)) = some (eN (l.getLastD 0)) := by
  have e : l = l.dropLast ++ [l.getLast h] := (List.dropLast_concat_getLast h).symm
  have e2 : l.getLastD 0 = l.getLast h := by
    rw [List.getLastD_eq_getLast?, List.getLast?_eq_some_getLast h]
    rfl
  rw [e2]
  conv => lhs; rw [e]
  rw [List.map_append]
  exact at_last _ _
theorem fold_dedup : ∀ (l : List Nat) (acc : List (Int × D)) (ks : List Nat), acc.map (·.1) = ks.map (fun n : Nat => (n : Int)) → (l.foldl (fun a t => aput ((t : Nat) : Int) (.bl true) a) acc).map (·.1) = (dedup l ks).map fun n : Nat => (n : Int)
  | [], acc, ks, h => h
  | t :: l, acc, ks, h => by
    rw [List.foldl_cons]
    unfold dedup
    have key : ∀ (acc : List (Int × D)), (aput (t : Int) (.bl true) acc).map (·.1) = if (t : Int) ∈ acc.map (·.1) then acc.map (·.1) else acc.map (·.1) ++ [(t : Int)] := by
      intro acc
      induction acc with
      | nil => simp [aput]
      | cons q acc ih =>
        obtain ⟨j, y⟩ := q
        unfold aput
        by_cases hj : j = (t : Int)
        · rw [if_pos hj]
          simp [hj]
        · rw [if_neg hj, List.map_cons, ih]
          by_cases hm : (t : Int) ∈ acc.map (·.1)
          · rw [if_pos hm, if_pos (by rw [List.map_cons]; exact List.mem_cons_of_mem _ hm)]
            rfl
          · rw [if_neg hm, if_neg]
            · rfl
            · rw [List.map_cons, List.mem_cons]
              exact fun z => z.elim (fun z => hj z.symm) hm
    have hmem : (t : Int) ∈ acc.map (·.1) ↔ t ∈ ks := by
      rw [h, List.mem_map]
      constructor
      · rintro ⟨x, hx, e⟩
        have : x = t := by omega
        exact this ▸ hx
      · exact fun hx => ⟨t, hx, rfl⟩
    by_cases hm : t ∈ ks
    · rw [if_pos (List.contains_iff_mem.mpr hm)]
      refine fold_dedup l _ ks ?_
      rw [key, if_pos (hmem.mpr hm), h]
    · rw [if_neg (fun z => hm (List.contains_iff_mem.mp z))]
      refine fold_dedup l _ _ ?_
      rw [key, if_neg (fun z => hm (hmem.mp z)), h, List.map_append]
      rfl
theorem insN_perm (x : Nat) : ∀ l, (insN x l).Perm (x :: l)
  | [] => .refl _
  | y :: r => by
    unfold insN
    split
    · exact .refl _
    · exact ((insN_perm x r).cons y).trans (.swap x y r)
theorem sortN_perm : ∀ l, (sortN l).Perm l
  | [] => .refl _
  | x :: r => (insN_perm x _).trans ((sortN_perm r).cons x)
theorem insN_sorted (x : Nat) : ∀ l, l.Pairwise (· ≤ ·) → (insN x l).Pairwise (· ≤ ·)
  | [], _ => by simp [insN]
  | y :: r, h => by
    unfold insN
    rw [List.pairwise_cons] at h
    split
    · rename_i q
      rw [List.pairwise_cons]
      refine ⟨fun z hz => ?_, List.pairwise_cons.mpr h⟩
      rcases List.mem_cons.mp hz with rfl | hz
      · exact q
      · exact Nat.le_trans q (h.1 z hz)
    · rename_i q
      rw [List.pairwise_cons]
      refine ⟨fun z hz => ?_, insN_sorted x r h.2⟩
      rcases List.mem_cons.mp ((insN_perm x r).mem_iff.mp hz) with rfl | hz
      · omega
      · exact h.1 z hz
theorem sortN_sorted : ∀ l, (sortN l).Pairwise (· ≤ ·)
  | [] => .nil
  | x :: r => insN_sorted x _ (sortN_sorted r)
section
variable {P : Program} {W : World} {K : PySem.W.Frag} {mg : Str → Option Value} {base : Heap} {cl : Nat → Addr}
abbrev ldF : List Str := ["blocks", "ties", "piece", "tops", "lots", "every"]
abbrev ldD (L : Ld) : List D := [eN L.blocks, eD eN L.ties, eD eN ((List.range L.piece.length).zip L.piece), lNs L.tops, .lst (L.lots.map eNs), eNs L.every]
section
variable (P : Program) (W : World) (K : PySem.W.Frag) (mg : Str → Option Value) (base : Heap) (cl : Nat → Addr)
abbrev K_Laid : Prop := ∀ (Q : Pic) (ties : List (Nat × Nat)) (ways : List (List Nat)), KCal P W K mg base CX0 1 (cl 2) "Laid" ["self", "picture", "ties", "ways"] (spI K cl 2 [ePic Q, eD eN ties, .lst (ways.map lNs)] (Pc Q ∧ ways.length ≤ 16 ∧ ∀ l ∈ ways, l ≠ [] ∧ l.length ≤ 1000) ldF (ldD (mkLaid Q ties ways)))
end
theorem dat_is {X : Cx} {r : List Sl} {w : List Ow} {e : Expr} {ks : List Int} {ds es : List D} (h : DAt cl X r w e ks ds) (q : ds = es) : DAt cl X r w e ks es := q ▸ h
theorem ok_Laid_init {f : Addr} {fd : FuncData} (B : Bl mg) (kf : Kf K cl) (F : FnA K "__init__" "Laid.__init__" s_Laid_init f fd) (Q : Pic) (ties : List (Nat × Nat)) (ways : List (List Nat)) : FnOk P W K mg base CX0 1 f fd ["self", "picture", "ties", "ways"] (spI K cl 2 [ePic Q, eD eN ties, .lst (ways.map lNs)] (Pc Q ∧ ways.length ≤ 16 ∧ ∀ l ∈ ways, l ≠ [] ∧ l.length ≤ 1000) ldF (ldD (mkLaid Q ties ways))) := by
  refine fn_init F sc_Laid_init rfl fun ⟨hQ, hz, hw⟩ cdv A outer s H E hr => ?_
  have hen : ((ways.map lNs).zipIdx.map fun p => D.tup [.int (p.2 : Nat), p.1]) = ways.zipIdx.map fun p => .tup [eN p.2, lNs p.1] := by
    rw [List.zipIdx_map, List.map_map]
    rfl
  refine wss_cons (ws_fld 0 kf.lad kf.lblocks rfl rfl (by simp) (by decide) (wp_fld kf.pic kf.pblocks (wp_v 1) rfl) ?_)
  refine wss_cons (ws_fld 0 kf.lad kf.ties rfl rfl (by decide) (by decide) (wp_v 2) ?_)
  have hpl : (ways.map fun l => l.getLastD 0).length = ways.length := List.length_map _
  have hpd : dD (dacc (fun p : List Nat × Nat => (p.2 : Int)) (fun p => eN (p.1.getLastD 0)) (ways.zipIdx.filter fun _ => true)) = eD eN ((List.range (ways.map fun l => l.getLastD 0).length).zip (ways.map fun l => l.getLastD 0)) := by
    rw [List.filter_eq_self.mpr (fun _ _ => rfl), zipIdx_range ways [], range_zip _ 0, hpl, dacc_new]
    · show D.dic _ _ = D.dic _ _
      simp only [List.map_map]
      congr 1
      apply List.map_congr_left
      intro i hi
      show eN _ = eN _
      simp
      rw [List.mem_range] at hi
      rw [List.getElem?_eq_getElem hi]
      rfl
    · rw [List.map_map]
      exact List.nodup_range.map _ fun a b h z => h (by
        have z : (a : Int) = (b : Int) := z
        omega)
  refine wss_cons (ws_fld 0 kf.lad kf.piece rfl rfl (by decide) (by decide) (wp_is (wp_dc (xs := ways.zipIdx) (enc := fun p => .tup [eN p.2, lNs p.1]) (f := fun _ => true) (key := fun p => (p.2 : Int)) (val := fun p => eN (p.1.getLastD 0)) (ra := fun p => [.o 0, .d (ePic Q), .d (eD eN ties), .d (.lst (ways.map lNs)), .d (eN p.2), .d (lNs p.1), .u, .u, .u, .u]) [("place", 4), ("way", 5)] rfl sc_Laid_init.nd (blk : BlkOk N_Laid_init (defScope s_Laid_init) _ _) (by simp; omega) (wi_is (wi_enum B (wp_v 3)) hen) (fun i hi => hi) (fun p hp _ _ _ _ _ => wg_two rfl (wg_n 4 sc_Laid_init.nd) (wg_n 5 sc_Laid_init.nd)) (fun _ _ _ _ _ _ _ => wts_nil) (fun p hp _ _ _ _ _ _ => wp_v 4) (fun p hp _ _ _ _ _ _ => ?_)) hpd) ?_)
  · refine wp_ixL (wp_v 5) (wp_neg (wp_k 1)) (last_ix ?_)
    exact (hw p.1 (by
      rw [zipIdx_range ways [], List.mem_map] at hp
      obtain ⟨i, hi, rfl⟩ := hp
      rw [List.mem_range] at hi
      show ways.getD i [] ∈ ways
      rw [List.getD_eq_getElem?_getD, List.getElem?_eq_getElem hi]
      exact List.getElem_mem hi)).1
  generalize hpc : (ways.map fun l => l.getLastD 0) = piece at hpl ⊢
  have hvals : ((List.range piece.length).zip piece).map (fun q => eN q.2) = piece.map eN := by
    rw [show (fun q : Nat × Nat => eN q.2) = eN ∘ Prod.snd from rfl, ← List.map_map, List.map_snd_zip]
    rw [List.length_range]
    exact Nat.le_refl _
  refine wss_cons (ws_fld 0 kf.lad kf.tops rfl rfl (by decide) (by decide) (d := lNs (sortN (dedup piece []))) (wp_peek 0 rfl rfl (wp_is (wp_sortedD (ms := (sortN (dedup piece [])).map fun n : Nat => (n : Int)) B rfl (wp_dcV (xs := piece) (enc := eN) (f := fun _ => true) (key := fun t => (t : Int)) (val := fun _ => .bl true) (ra := fun t => [.d (.obj 2 ["blocks", "ties", "piece"] [eN Q.blocks, eD eN ties, eD eN ((List.range piece.length).zip piece)]), .d (ePic Q), .d (eD eN ties), .d (.lst (ways.map lNs)), .u, .u, .d (eN t), .u, .u, .u]) [("top", 6)] rfl sc_Laid_init.nd (blk : BlkOk N_Laid_init (defScope s_Laid_init) _ _) (by omega) (dat_is (dat_f 0 kf.lad kf.piece rfl) hvals) (fun i hi => hi) (fun t ht _ _ _ _ _ => wg_n 6 sc_Laid_init.nd) (fun _ _ _ _ _ _ _ => wts_nil) (fun t ht _ _ _ _ _ _ => wp_v 6) (fun t ht _ _ _ _ _ _ => wp_bl)) ?_ ?_ ?_) ?_) ?_) ?_)
  · rw [List.filter_eq_self.mpr (fun _ _ => rfl)]
    have := fold_dedup piece [] [] rfl
    show List.Perm _ ((dacc _ _ piece).map (·.1))
    unfold dacc
    rw [this]
    exact (sortN_perm _).map _
  · rw [List.pairwise_map]
    exact (sortN_sorted _).imp fun {a b} h => by omega
  · rw [List.filter_eq_self.mpr (fun _ _ => rfl), List.length_map]
    have := fold_len (key := fun t : Nat => (t : Int)) (val := fun _ => .bl true) piece []
    unfold dacc
    have h2 : ([] : List (Int × D)).length = 0 := rfl
    exact Nat.lt_of_le_of_lt this (by omega)
  · show D.lst _ = D.lst _
    rw [List.map_map]
    rfl
  · exact frees_map (fun _ => rfl) _
  refine wss_cons (ws_setp 7 sc_Laid_init.nd (wp_ixT (wp_fld kf.pic kf.view (wp_v 1) rfl) (wp_k 1) (z := eN Q.view.2) rfl) ?_)
  have hpe : (ways.zipIdx.filter fun p => !(p.1.take Q.view.2).any fun x => (Q.told.map (·.1)).contains x).map (fun p => eN p.2) = (mkLaid Q ties ways).every.map eN := by
    show _ = ((List.range ways.length).filter _).map eN
    rw [zipIdx_range ways [], List.filter_map, List.map_map]
    rfl
  refine wss_cons (ws_setp 8 sc_Laid_init.nd (d := lNs (mkLaid Q ties ways).every) (wp_is (wp_lc (xs := ways.zipIdx) (enc := fun p => .tup [eN p.2, lNs p.1]) (f := fun p => !(p.1.take Q.view.2).any fun x => (Q.told.map (·.1)).contains x) (g := fun p => eN p.2) (ra := fun p => [.o 0, .d (ePic Q), .d (eD eN ties), .d (.lst (ways.map lNs)), .d (eN p.2), .d (lNs p.1), .u, .d (eN Q.view.2), .u, .u]) [("place", 4), ("way", 5)] rfl sc_Laid_init.nd (blk : BlkOk N_Laid_init (defScope s_Laid_init) _ _) (by simp; omega) (wi_is (wi_enum B (wp_v 3)) hen) (fun i hi => hi) (fun p hp _ _ _ _ _ => wg_two rfl (wg_n 4 sc_Laid_init.nd) (wg_n 5 sc_Laid_init.nd)) (fun p hp _ _ _ _ _ => wts_one (wt_not (wt_val (wp_anyB B rfl ?_)))) (fun p hp _ _ _ _ _ _ => wp_v 4)) (congrArg D.lst hpe)) ?_)
  · have hpw : p.1 ∈ ways := by
      rw [zipIdx_range ways [], List.mem_map] at hp
      obtain ⟨i, hi, rfl⟩ := hp
      rw [List.mem_range] at hi
      show ways.getD i [] ∈ ways
      rw [List.getD_eq_getElem?_getD, List.getElem?_eq_getElem hi]
      exact List.getElem_mem hi
    have hl := (hw p.1 hpw).2
    refine wp_lcm (xs := p.1.take Q.view.2) (enc := eN) (ra := fun x => [.o 0, .d (ePic Q), .d (eD eN ties), .d (.lst (ways.map lNs)), .d (eN p.2), .d (lNs p.1), .u, .d (eN Q.view.2), .u, .d (eN x)]) [("here", 9)] rfl sc_Laid_init.nd (blk : BlkOk N_Laid_init _ _ _) (by rw [List.length_take]; omega) (wi_is (wi_L (wp_slL (wp_v 5) wo_none (wo_some (wp_v 7)))) (cut_to _ _)) (fun i hi => hi) (fun x hx _ _ _ _ _ => wg_n 9 sc_Laid_init.nd) (fun x hx _ _ _ _ _ => ?_)
    exact wp_is (wp_dinN hr (wp_v 9) (wp_fld kf.pic kf.told (wp_v 1) rfl)) (by rw [look_some])
  have hev : (mkLaid Q ties ways).every.length ≤ 16 := by
    have := List.length_filter_le (fun p => !((ways.getD p []).take Q.view.2).any fun x => (Q.told.map (·.1)).contains x) (List.range ways.length)
    rw [List.length_range] at this
    exact Nat.le_trans this hz
  have hevm : ∀ p ∈ (mkLaid Q ties ways).every, p < piece.length := fun p hp => by
    have := List.mem_range.mp (List.mem_filter.mp hp).1
    omega
  have htl : (sortN (dedup piece [])).length ≤ 100000 := by
    have h1 := (sortN_perm (dedup piece [])).length_eq
    have h2 : ∀ (l ks : List Nat), (dedup l ks).length ≤ ks.length + l.length := by
      intro l
      induction l with
      | nil => exact fun ks => Nat.le_refl _
      | cons x l ih =>
        intro ks
        unfold dedup
        split
        · have := ih ks
          rw [List.length_cons]
          omega
        · have := ih (ks ++ [x])
          rw [List.length_append, List.length_singleton] at this
          rw [List.length_cons]
          omega
    have := h2 piece []
    have h3 : ([] : List Nat).length = 0 := rfl
    omega
  refine wss_cons (ws_fld 0 kf.lad kf.lots rfl rfl (by decide) (by decide) (d := .lst ((mkLaid Q ties ways).lots.map eNs)) (wp_peek 0 rfl rfl (wp_is (wp_lcm (xs := sortN (dedup piece [])) (enc := eN) (g := fun t => eNs ((mkLaid Q ties ways).every.filter fun p => piece.getD p 0 == t)) (ra := fun t => [.d (.obj 2 ["blocks", "ties", "piece", "tops"] [eN Q.blocks, eD eN ties, eD eN ((List.range piece.length).zip piece), lNs (sortN (dedup piece []))]), .d (ePic Q), .d (eD eN ties), .d (.lst (ways.map lNs)), .u, .u, .d (eN t), .d (eN Q.view.2), .d (lNs (mkLaid Q ties ways).every), .u]) [("top", 6)] rfl sc_Laid_init.nd (blk : BlkOk N_Laid_init (defScope s_Laid_init) _ _) htl (wi_L (wp_fld kf.lad kf.tops (wp_v 0) rfl)) (fun i hi => hi) (fun t ht _ _ _ _ _ => wg_n 6 sc_Laid_init.nd) (fun t ht _ _ _ _ _ => wp_tupleL B (wp_is (wp_lc (xs := (mkLaid Q ties ways).every) (enc := eN) (f := fun p => decide (piece.getD p 0 = t)) (g := eN) (ra := fun p => [.d (.obj 2 ["blocks", "ties", "piece", "tops"] [eN Q.blocks, eD eN ties, eD eN ((List.range piece.length).zip piece), lNs (sortN (dedup piece []))]), .d (ePic Q), .d (eD eN ties), .d (.lst (ways.map lNs)), .d (eN p), .u, .d (eN t), .d (eN Q.view.2), .d (lNs (mkLaid Q ties ways).every), .u]) [("place", 4)] rfl sc_Laid_init.nd (blk : BlkOk N_Laid_init _ _ _) (by omega) (wi_L (wp_v 8)) (fun i hi => hi) (fun p hp _ _ _ _ _ => wg_n 4 sc_Laid_init.nd) (fun p hp _ _ _ _ _ => wts_one (wt_eqN (wp_dgetN hr (wp_fld kf.lad kf.piece (wp_v 0) rfl) (wp_v 4) (look_piece (hevm p hp))) (wp_v 6))) (fun p hp _ _ _ _ _ _ => wp_v 4)) ?_))) ?_) ?_) ?_)
  · congr 2
  · show D.lst _ = D.lst _
    rw [show (mkLaid Q ties ways).lots = (sortN (dedup piece [])).map fun t => (mkLaid Q ties ways).every.filter fun p => piece.getD p 0 == t by subst hpc; rfl, List.map_map]
    rfl
  · exact frees_map (fun x => by
      show (!(3 == 4) && frees 3 (x.map eN)) = true
      rw [frees_map (fun _ => rfl)]
      rfl) _
  refine wss_one (ws_fld 0 kf.lad kf.every rfl rfl (by decide) (by decide) (wp_tupleL B (wp_v 8)) ?_)
  subst hpc
  rfl
end
end FV
set_option Elab.async false
set_option linter.all false
set_option maxRecDepth 100000
set_option maxHeartbeats 4000000
/-! Defs, eighth part: what is laid, used. -/
namespace FV
open PySem PySem.Spec PyProof.Rows L2
/-- laid right -/
structure LdOk (L : Ld) : Prop where
  blocks : L.blocks ≤ 15
  tnd : (L.ties.map (·.1)).Nodup
  piece : L.piece.length = L.blocks + 1
  tops : L.tops.Nodup
  tlen : L.tops.length ≤ 16
  lots : L.lots.length = L.tops.length
  pos : L.tops ≠ []
  ties16 : L.ties.length ≤ 16
  new : ∀ t ∈ L.tops.drop 1, t ∉ L.ties.map (·.1)
  cover : ∀ b, 1 ≤ b → b ≤ L.blocks → b ∈ L.ties.map (·.1) ∨ b ∈ L.tops.drop 1
  every : ∀ p ∈ L.every, p ≤ L.blocks
  elen : L.every.length ≤ 16
  lot : ∀ p ∈ L.lots.getD 0 [], p ≤ L.blocks ∧ L.piece.getD p 0 = L.tops.getD 0 0
  llen : (L.lots.getD 0 []).length ≤ 16
structure NotesOk (L : Ld) (ns : List Nat) : Prop where
  len : ns.length + 1 = L.tops.length
  all : ∀ p ∈ ns, p ≤ L.blocks
  last : ∀ p, ns.getLast? = some p → L.piece.getD p 0 = L.tops.getD 0 0
section
variable {P : Program} {W : World} {K : PySem.W.Frag} {mg : Str → Option Value} {base : Heap} {cl : Nat → Addr}
section
variable (P : Program) (W : World) (K : PySem.W.Frag) (mg : Str → Option Value) (base : Heap) (cl : Nat → Addr)
abbrev M_many : Prop := ∀ L : Ld, MCal P W K mg base CX0 1 (cl 2) "many" ["self"] (PX K cl [eLd L] (LdOk L) (eN L.many))
abbrev M_digits : Prop := ∀ L : Ld, MCal P W K mg base CX0 1 (cl 2) "digits" ["self"] (PX K cl [eLd L] (LdOk L) (.lst (L.digits.map eNs)))
abbrev M_hung_by : Prop := ∀ (L : Ld) (ns : List Nat), MCal P W K mg base CX0 1 (cl 2) "hung_by" ["self", "notes"] (PX K cl [eLd L, lNs ns] (LdOk L ∧ NotesOk L ns) (eNs (L.hungBy ns)))
end
theorem LdOk.lot0 {L : Ld} (h : LdOk L) : L.lots[0]? = some (L.lots.getD 0 []) := by
  have : 0 < L.lots.length := by
    rw [h.lots]
    exact List.length_pos_iff.mpr h.pos
  rw [List.getD_eq_getElem?_getD, List.getElem?_eq_getElem this]
  rfl
theorem ok_many {f : Addr} {fd : FuncData} (B : Bl mg) (kf : Kf K cl) (F : FnA K "many" "Laid.many" s_Laid_many f fd) (L : Ld) : FnOk P W K mg base CX0 1 f fd ["self"] (PX K cl [eLd L] (LdOk L) (eN L.many)) := by
  refine fn_px F sc_Laid_many rfl fun hL cdv A outer s H E hr => ?_
  refine wss_cons (ws_if (wt_eqN (wp_lenLm B (wp_fld kf.lad kf.tops (wp_v 0) rfl)) (wp_k 1)) (fun h => wss_one (ws_ret (wp_is (wp_k 1) ?_) rfl)) fun h => wss_nil ?_)
  · unfold Ld.many
    rw [if_pos (of_decide_eq_true h)]
  · have hn := of_decide_eq_false h
    refine wss_cons (ws_setp 1 sc_Laid_many.nd (wp_lenTm B (wp_ixLm (enc := eNs) (k := 0) (wp_fld kf.lad kf.lots (wp_v 0) rfl) (wp_k 0) hL.lot0)) ?_)
    refine wss_cons (ws_for (ds := (L.tops.drop 2).map eN) PassesOwn.never rfl (wi_is (wi_L (wp_slL (wp_fld kf.lad kf.tops (wp_v 0) rfl) (wo_some (wp_k 2)) wo_none)) (cut_from _ _)) (fun i r1 w1 => ∃ x, r1 = [.d (eLd L), .d (eN ((L.lots.getD 0 []).length * L.every.length ^ i)), x] ∧ w1 = []) ⟨.u, by rw [Nat.pow_zero, Nat.mul_one]; rfl, rfl⟩ (fun i x r1 w1 e hP => ?_) fun r1 w1 hP => ?_)
    · obtain ⟨x2, rfl, rfl⟩ := hP
      obtain ⟨q, _, rfl⟩ : ∃ q, (L.tops.drop 2)[i]? = some q ∧ eN q = x := by
        rw [List.getElem?_map] at e
        exact Option.map_eq_some_iff.mp e
      refine ⟨_, _, wg_n 2 sc_Laid_many.nd, wss_one (ws_mulAug 1 sc_Laid_many.nd rfl (wp_lenTm B (wp_fld kf.lad kf.every (wp_v 0) rfl)) (.inr ⟨by omega, ?_⟩) ⟨_, .refl _, .d (eN q), ?_, rfl⟩)⟩
      · have := hL.elen
        have h2 : ((L.every.length : Nat) : Int) ≤ 16 := by omega
        exact Int.lt_of_le_of_lt h2 (by decide)
      · have e2 : ((((L.lots.getD 0 []).length * L.every.length ^ i : Nat) : Int) * ((L.every.length : Nat) : Int)) = (((L.lots.getD 0 []).length * L.every.length ^ (i + 1) : Nat) : Int) := by
          rw [← Int.natCast_mul, Nat.pow_succ, Nat.mul_assoc]
        rw [e2]
        rfl
    · obtain ⟨x2, rfl, rfl⟩ := hP
      rw [List.length_map, List.length_drop]
      refine wss_one (ws_ret (wp_v 1) ?_)
      unfold Ld.many
      rw [if_neg hn]
theorem ok_digits {f : Addr} {fd : FuncData} (B : Bl mg) (kf : Kf K cl) (F : FnA K "digits" "Laid.digits" s_Laid_digits f fd) (L : Ld) : FnOk P W K mg base CX0 1 f fd ["self"] (PX K cl [eLd L] (LdOk L) (.lst (L.digits.map eNs))) := by
  refine fn_px F sc_Laid_digits rfl fun hL cdv A outer s H E hr => ?_
  have ht := hL.tlen
  refine wss_cons (ws_setp 1 sc_Laid_digits.nd (wp_lenLm B (wp_fld kf.lad kf.tops (wp_v 0) rfl)) ?_)
  refine wss_one (ws_ret (wp_if (d := .lst (L.digits.map eNs)) (wt_gtN (wp_v 1) (wp_k 1)) (fun h => wp_is (wp_catL (wp_rep (ds := [eNs L.every]) (wp_lst (wa_cons (wp_fld kf.lad kf.every (wp_v 0) rfl) wa_nil) (by show 1 ≤ 100000; decide)) (wp_sub (wp_v 1) (wp_k 2)) ?_ (by show 1 ≤ 10; decide)) (wp_lst (ds := [eNs (L.lots.getD 0 [])]) (wa_cons (wp_ixLm (enc := eNs) (k := 0) (wp_fld kf.lad kf.lots (wp_v 0) rfl) (wp_k 0) hL.lot0) wa_nil) (by show 1 ≤ 100000; decide)) ?_) ?_) (fun h => wp_is (wp_lst wa_nil (by decide)) ?_)) rfl)
  · omega
  · have h1 := of_decide_eq_true h
    have e1 : (((L.tops.length : Nat) : Int) - ((2 : Nat) : Int)).toNat = L.tops.length - 2 := by omega
    rw [e1]
    simp
    omega
  · have h1 := of_decide_eq_true h
    have e1 : (((L.tops.length : Nat) : Int) - ((2 : Nat) : Int)).toNat = L.tops.length - 2 := by omega
    rw [e1]
    show D.lst _ = D.lst _
    congr 1
    unfold Ld.digits
    rw [if_pos (show L.tops.length > 1 from h1), List.map_append, List.map_replicate]
    congr 1
    generalize L.tops.length - 2 = n
    induction n with
    | zero => rfl
    | succ n ih =>
      rw [List.replicate_succ, List.flatten_cons, ih, List.replicate_succ]
      rfl
  · unfold Ld.digits
    rw [if_neg (show ¬ L.tops.length > 1 from of_decide_eq_false h)]
    rfl
theorem ok_hung_by {f : Addr} {fd : FuncData} (B : Bl mg) (kf : Kf K cl) (F : FnA K "hung_by" "Laid.hung_by" s_Laid_hung_by f fd) (L : Ld) (ns : List Nat) : FnOk P W K mg base CX0 1 f fd ["self", "notes"] (PX K cl [eLd L, lNs ns] (LdOk L ∧ NotesOk L ns) (eNs (L.hungBy ns))) := by
  refine fn_px F sc_Laid_hung_by rfl fun ⟨hL, hN⟩ cdv A outer s H E hr => ?_
  have hlen := hN.len
  have ht := hL.tlen
  have hb := hL.blocks
  obtain ⟨t0, tops1, htop⟩ : ∃ t0 tops1, L.tops = t0 :: tops1 := by
    cases q : L.tops with
    | nil => exact absurd q hL.pos
    | cons a l => exact ⟨a, l, rfl⟩
  have hd1 : L.tops.drop 1 = tops1 := by rw [htop]; rfl
  have hnd := hL.tops
  rw [htop, List.nodup_cons] at hnd
  have hl1 : tops1.length = ns.length := by
    rw [htop, List.length_cons] at hlen
    omega
  let pf : Nat → Nat := fun x => L.piece.getD x 0
  refine wss_cons (ws_dictO 2 B sc_Laid_hung_by.nd (wp_fld kf.lad kf.ties (wp_v 0) rfl) ?_)
  refine wss_cons (ws_setp 3 sc_Laid_hung_by.nd (d := lNs tops1) (wp_is (wp_slL (wp_fld kf.lad kf.tops (wp_v 0) rfl) (wo_some (wp_k 1)) wo_none) ?_) ?_)
  · rw [cut_from, hd1]
  have hen : ((ns.map eN).zipIdx.map fun p => D.tup [.int (p.2 : Nat), p.1]) = ns.zipIdx.map fun p => .tup [eN p.2, eN p.1] := by
    rw [List.zipIdx_map, List.map_map]
    rfl
  refine wss_cons (ws_for PassesOwn.never rfl (wi_is (wi_enum B (wp_v 1)) hen) (fun i r1 w1 => ∃ (x4 x5 x6 x7 x8 x9 x10 : Sl) (done : List (Nat × Nat)) (left : List Nat), strike pf ns tops1 = done ++ strike pf (ns.drop i) left ∧ left.length = ns.length - i ∧ done.length ≤ i ∧ left.Nodup ∧ (∀ t ∈ left, t ∈ tops1 ∧ t ∉ done.map (·.1)) ∧ (∀ t ∈ tops1, t ∈ done.map (·.1) ∨ t ∈ left) ∧ (∀ q ∈ done, q.1 ∈ tops1) ∧
      r1 = [.d (eLd L), .d (lNs ns), .o 0, .d (lNs left), x4, x5, x6, x7, x8, x9, x10] ∧ w1 = [.dic ((L.ties ++ done).map fun q => (q.1 : Int)) ((L.ties ++ done).map fun q => eN q.2)]) ?_ (fun i x r1 w1 e hP => ?_) fun r1 w1 hP => ?_)
  · exact ⟨_, _, _, _, _, _, _, [], tops1, rfl, hl1, Nat.le_refl _, hnd.2, fun t h => ⟨h, by simp⟩, fun t h => .inr h, fun q h => absurd h (List.not_mem_nil), rfl, by rw [List.append_nil]; rfl⟩
  · obtain ⟨x4, x5, x6, x7, x8, x9, x10, done, left, hs, hll, hdl, hln, hlt, hcov, hdt, rfl, rfl⟩ := hP
    have hi : i < ns.length := by
      have := (List.getElem?_eq_some_iff.mp e).1
      simpa using this
    have hz0 : ns.zipIdx[i]? = some (ns[i], i) := by
      rw [List.getElem?_zipIdx, List.getElem?_eq_getElem hi]
      simp
    have hx : x = .tup [eN i, eN ns[i]] := by
      rw [List.getElem?_map, hz0] at e
      exact (Option.some.inj e).symm
    subst hx
    have hdrop : ns.drop i = ns[i] :: ns.drop (i + 1) := List.drop_eq_getElem_cons hi
    have hmem : ∀ y ∈ ns.drop i, y < L.piece.length := fun y hy => by
      have := hN.all y (List.mem_of_mem_drop hy)
      have := hL.piece
      omega
    -- the last note's piece is the first top
    have hlastm : t0 ∈ (ns.drop i).map pf := by
      have hne : ns ≠ [] := fun z => by rw [z] at hi; simp at hi
      have e1 : ns.getLast? = some (ns.getLast hne) := List.getLast?_eq_some_getLast hne
      have e2 := hN.last _ e1
      rw [htop] at e2
      refine List.mem_map.mpr ⟨ns.getLast hne, ?_, e2⟩
      have e3 : (ns.drop i).getLast? = some (ns.getLast hne) := by rw [List.getLast?_drop, if_neg (by omega), e1]
      exact List.mem_of_getLast? e3
    have hcand : (left.filter fun t => !((ns.drop i).map pf).contains t) ≠ [] := fun z => by
      have sub : ∀ t ∈ t0 :: left, t ∈ (ns.drop i).map pf := fun t ht => by
        rcases List.mem_cons.mp ht with rfl | ht
        · exact hlastm
        · have := List.filter_eq_nil_iff.mp z t ht
          simpa using this
      have nd : (t0 :: left).Nodup := List.nodup_cons.mpr ⟨fun h => hnd.1 (hlt t0 h).1, hln⟩
      have := nd_len nd sub
      rw [List.length_cons, List.length_map, List.length_drop] at this
      omega
    generalize hctop : minL (left.filter fun t => !((ns.drop i).map pf).contains t) = top
    have htopm : top ∈ left := by
      have := minL_mem hcand
      rw [hctop] at this
      exact (List.mem_filter.mp this).1
    have hs2 : strike pf (ns.drop i) left = (top, ns[i]) :: strike pf (ns.drop (i + 1)) (left.filter fun t => !(t == top)) := by
      rw [hdrop]
      simp only [strike]
      rw [← hdrop, hctop]
    refine ⟨_, _, wg_two rfl (wg_n 4 sc_Laid_hung_by.nd) (wg_n 5 sc_Laid_hung_by.nd), ?_⟩
    refine wss_cons (ws_setp 6 sc_Laid_hung_by.nd (wp_lcm (xs := ns.drop i) (enc := eN) (g := fun y => eN (pf y)) (ra := fun y => [.d (eLd L), .d (lNs ns), .o 0, .d (lNs left), .d (eN i), .d (eN ns[i]), x6, .d (eN y), x8, x9, x10]) [("later", 7)] rfl sc_Laid_hung_by.nd (blk : BlkOk N_Laid_hung_by (defScope s_Laid_hung_by) _ _) (by rw [List.length_drop]; omega) (wi_is (wi_L (wp_slL (wp_v 1) (wo_some (wp_v 4)) wo_none)) (cut_from _ _)) (fun i hi => hi) (fun y hy _ _ _ _ _ => wg_n 7 sc_Laid_hung_by.nd) (fun y hy _ _ _ _ _ => wp_dgetN hr (wp_fld kf.lad kf.piece (wp_v 0) rfl) (wp_v 7) (look_piece (hmem y hy)))) ?_)
    have hheld : D.lst ((ns.drop i).map fun y => eN (pf y)) = lNs ((ns.drop i).map pf) := by
      show D.lst _ = D.lst _
      rw [List.map_map]
      rfl
    rw [hheld]
    refine wss_cons (ws_setp 8 sc_Laid_hung_by.nd (d := eN top) (wp_is (wp_minN (l := left.filter fun t => !((ns.drop i).map pf).contains t) B rfl (wp_lc (xs := left) (enc := eN) (f := fun t => !((ns.drop i).map pf).contains t) (g := eN) (ra := fun y => [.d (eLd L), .d (lNs ns), .o 0, .d (lNs left), .d (eN i), .d (eN ns[i]), .d (lNs ((ns.drop i).map pf)), x7, x8, .d (eN y), x10]) [("one", 9)] rfl sc_Laid_hung_by.nd (blk : BlkOk N_Laid_hung_by (defScope s_Laid_hung_by) _ _) (by omega) (wi_L (wp_v 3)) (fun i hi => hi) (fun y hy _ _ _ _ _ => wg_n 9 sc_Laid_hung_by.nd) (fun y hy _ _ _ _ _ => wts_one (wt_niLN (wp_v 9) (wp_v 6))) (fun y hy _ _ _ _ _ _ => wp_v 9)) hcand) (by rw [hctop])) ?_)
    have hw0 : [Ow.dic ((L.ties ++ done).map fun q => (q.1 : Int)) ((L.ties ++ done).map fun q => eN q.2)][0]? = some (Ow.dic (((L.ties ++ done).map fun q => ((q.1 : Int), eN q.2)).map (·.1)) (((L.ties ++ done).map fun q => ((q.1 : Int), eN q.2)).map (·.2))) := by
      rw [List.map_map, List.map_map]
      rfl
    have htd : top ∉ (L.ties ++ done).map (·.1) := fun h => by
      rw [List.map_append, List.mem_append] at h
      rcases h with h | h
      · exact hL.new top (by rw [hd1]; exact (hlt top htopm).1) h
      · exact (hlt top htopm).2 h
    have hap : aput (top : Int) (eN ns[i]) ((L.ties ++ done).map fun q => ((q.1 : Int), eN q.2)) = (L.ties ++ (done ++ [(top, ns[i])])).map fun q => ((q.1 : Int), eN q.2) := by
      rw [aput_new]
      · rw [← List.append_assoc, List.map_append (l₁ := L.ties ++ done)]
        rfl
      · rw [List.map_map]
        intro h
        obtain ⟨q, hq, e2⟩ := List.mem_map.mp h
        have e2 : (q.1 : Int) = (top : Int) := e2
        exact htd (List.mem_map.mpr ⟨q, hq, by omega⟩)
    have hz2 : (L.ties ++ done).length < 100000 := by
      have := hL.ties16
      rw [List.length_append]
      omega
    refine wss_cons (ws_dput 2 hr rfl hw0 (wp_v 5) (wp_v 8) (by rw [List.length_map]; exact hz2) ?_)
    refine wss_one (ws_setLcf 3 (xs := left) (enc := eN) (f := fun t => !decide (t = top)) (g := eN) (ra := fun y => [.d (eLd L), .d (lNs ns), .o 0, .d (lNs left), .d (eN i), .d (eN ns[i]), .d (lNs ((ns.drop i).map pf)), x7, .d (eN top), .d (eN y), x10]) [("one", 9)] rfl sc_Laid_hung_by.nd (blk : BlkOk N_Laid_hung_by (defScope s_Laid_hung_by) _ _) (by omega) (wi_L (wp_v 3)) (fun i hi => hi) (fun y hy _ _ _ _ _ => wg_n 9 sc_Laid_hung_by.nd) (fun y hy _ _ _ _ _ => wt_neN (wp_v 9) (wp_v 8)) (fun y hy _ _ _ _ _ _ => wp_v 9) ⟨_, .refl _, _, _, _, _, _, _, _, done ++ [(top, ns[i])], left.filter (fun t => !decide (t = top)), ?_, ?_, ?_, ?_, ?_, ?_, ?_, rfl, ?_⟩)
    · rw [hs, hs2, List.append_assoc]
      rfl
    · have h1 : (left.filter fun t => !decide (t = top)) = left.erase top := (hln.erase_eq_filter top).symm
      rw [h1, List.length_erase_of_mem htopm]
      omega
    · rw [List.length_append, List.length_singleton]
      omega
    · exact hln.filter _
    · intro t h
      have h1 := List.mem_filter.mp h
      have h2 : t ≠ top := by simpa using h1.2
      refine ⟨(hlt t h1.1).1, ?_⟩
      rw [List.map_append, List.mem_append]
      rintro (h3 | h3)
      · exact (hlt t h1.1).2 h3
      · exact h2 (by simpa using h3)
    · intro t h
      rw [List.map_append, List.mem_append]
      rcases hcov t h with h3 | h3
      · exact .inl (.inl h3)
      · by_cases h4 : t = top
        · exact .inl (.inr (by simp [h4]))
        · exact .inr (List.mem_filter.mpr ⟨h3, by simpa using h4⟩)
    · intro q h
      rcases List.mem_append.mp h with h | h
      · exact hdt q h
      · have : q = (top, ns[i]) := by simpa using h
        rw [this]
        exact (hlt top htopm).1
    · show [Ow.dic _ _] = [Ow.dic _ _]
      rw [hap, List.map_map, List.map_map]
      rfl
  · obtain ⟨x4, x5, x6, x7, x8, x9, x10, done, left, hs, hll, hdl, hln, hlt, hcov, hdt, rfl, rfl⟩ := hP
    rw [List.length_map, List.length_zipIdx] at hs hll hdl
    have hleft : left = [] := List.length_eq_zero_iff.mp (by omega)
    rw [List.drop_length] at hs
    have hs : strike pf ns tops1 = done ++ [] := hs
    rw [List.append_nil] at hs
    refine wss_sub (r' := [.d (eLd L), .d (lNs ns), .o 0, .u, .u, .u, .u, .u, .u, .u, .u]) (.same (.same (.same (.u (.u (.u (.u (.u (.u (.u (.u .nil))))))))))) ?_
    refine wss_share 2 0 rfl rfl rfl (Nat.zero_le _) (no_o (by simp)) ?_
    refine wss_one (ws_ret (wp_tupleL B (wp_lcm (xs := blocksOf L.blocks) (enc := eN) (g := fun b => eN (((L.ties ++ strike pf ns tops1).lookup b).getD 0)) (ra := fun b => [.d (eLd L), .d (lNs ns), .d (eD eN (L.ties ++ done)), .u, .u, .u, .u, .u, .u, .u, .d (eN b)]) [("block", 10)] rfl sc_Laid_hung_by.nd (blk : BlkOk N_Laid_hung_by (defScope s_Laid_hung_by) _ _) (by rw [blocks_len]; omega) (wi_blocks B (wp_k 1) (wp_addN (wp_fld kf.lad kf.lblocks (wp_v 0) rfl) (wp_k 1)) (by omega)) (fun i hi => hi) (fun y hy _ _ _ _ _ => wg_n 10 sc_Laid_hung_by.nd) (fun y hy _ _ _ _ _ => wp_dgetN hr (wp_v 2) (wp_v 10) ?_))) ?_)
    · have hy2 := mem_blocks.mp hy
      have hsome : ((L.ties ++ done).lookup y).isSome = true := by
        rw [look_some, List.contains_iff_mem, List.map_append, List.mem_append]
        rcases hL.cover y hy2.1 hy2.2 with h | h
        · exact .inl h
        · rw [hd1] at h
          rcases hcov y h with h | h
          · exact .inr h
          · rw [hleft] at h
            cases h
      rw [hs]
      obtain ⟨v, hv⟩ := Option.isSome_iff_exists.mp hsome
      rw [hv]
      rfl
    · show Sl.d (D.tup _) = Sl.d (D.tup _)
      unfold Ld.hungBy
      rw [List.map_map, hd1]
      rfl
end
end FV
set_option Elab.async false
set_option linter.all false
set_option maxRecDepth 100000
/-! What the mathematics owes the walk (statements). -/
namespace FV
def InDig : List (List Nat) → List Nat → Prop
  | [], ns => ns = []
  | l :: r, ns => ∃ n m, ns = n :: m ∧ n ∈ l ∧ InDig r m
/-- laid, and every choice of notes gives a tree -/
structure LayOk (L : Ld) : Prop where
  ld : LdOk L
  dig : ∀ l ∈ L.digits, l ≠ []
  tree : ∀ ns, InDig L.digits ns → NotesOk L ns ∧ Tr (L.hungBy ns) ∧ ∀ b, 1 ≤ b → b ≤ (L.hungBy ns).length → hangAt (L.hungBy ns) b ≠ b
  one : 1 ≤ L.blocks
def LayP (Q : Pic) : Prop := ∀ ties ways, tiesKnown Q = some ties → waysOf Q ties = some ways → LdOk (mkLaid Q ties ways) ∧ (¬ ((mkLaid Q ties ways).tops.length > 1 ∧ ((mkLaid Q ties ways).lots.getD 0 []).length = 0) → LayOk (mkLaid Q ties ways))
theorem hungBy_len (L : Ld) (ns : List Nat) : (L.hungBy ns).length = L.blocks := by simp [Ld.hungBy, blocksOf]
end FV
set_option Elab.async false
set_option linter.all false
set_option maxRecDepth 100000
set_option maxHeartbeats 4000000
/-! Defs, ninth part: laid or none, a tree of it. -/
namespace FV
open PySem PySem.Spec PyProof.Rows L2
theorem allSome_none : ∀ {l : List (Option (List Nat))}, none ∈ l → allSome l = none
  | none :: _, _ => rfl
  | some x :: l, h => by
    have h2 : none ∈ l := by
      rcases List.mem_cons.mp h with h | h
      · cases h
      · exact h
    unfold allSome
    rw [allSome_none h2]
    rfl
theorem allSome_some : ∀ {l : List (Option (List Nat))}, none ∉ l → ∃ ws, allSome l = some ws ∧ l = ws.map some
  | [], _ => ⟨[], rfl, rfl⟩
  | none :: _, h => absurd List.mem_cons_self h
  | some x :: l, h => by
    obtain ⟨ws, h1, h2⟩ := allSome_some fun z => h (List.mem_cons_of_mem _ z)
    refine ⟨x :: ws, ?_, by rw [h2]; rfl⟩
    unfold allSome
    rw [h1]
    rfl
theorem wayU_len {ties : List (Nat × Nat)} : ∀ (f x : Nat) (l : List Nat), wayU ties f x = some l → l ≠ [] ∧ l.length ≤ f
  | 0, _, _, h => by cases h
  | f + 1, x, l, h => by
    unfold wayU at h
    split at h
    · cases h
      simp
    · rename_i y _
      cases q : wayU ties f y with
      | none =>
        rw [q] at h
        cases h
      | some m =>
        rw [q] at h
        cases h
        have := (wayU_len f y m q).2
        simp
        exact this
theorem get_getD {l : List Nat} {k : Nat} (h : k < l.length) : l[k]? = some (l.getD k 0) := by
  rw [List.getD_eq_getElem?_getD, List.getElem?_eq_getElem h]
  rfl
theorem inDig_firsts : ∀ {ls : List (List Nat)}, (∀ l ∈ ls, l ≠ []) → InDig ls (ls.map fun l => l.getD 0 0)
  | [], _ => rfl
  | l :: ls, h => by
    refine ⟨_, _, rfl, ?_, inDig_firsts fun x hx => h x (List.mem_cons_of_mem _ hx)⟩
    cases l with
    | nil => exact absurd rfl (h _ List.mem_cons_self)
    | cons a l => exact List.mem_cons_self
theorem sh_non' {n : Nat} : Sh n .non := sh_non
section
variable {P : Program} {W : World} {K : PySem.W.Frag} {mg : Str → Option Value} {base : Heap} {cl : Nat → Addr}
section
variable (P : Program) (W : World) (K : PySem.W.Frag) (mg : Str → Option Value) (base : Heap) (cl : Nat → Addr)
abbrev C_laid_or_none : Prop := ∀ (Q : Pic), CX1 P W K mg base 5 "laid_or_none" ["picture"] (PX K cl [ePic Q] (Pc Q ∧ LayP Q) (dOpt eLd (laidOrNone Q)))
abbrev C_raw_tree_at : Prop := ∀ (L : Ld) (m : Nat), CX1 P W K mg base 5 "raw_tree_at" ["found", "number"] (PX K cl [eLd L, eN m] (LayOk L) (eTree (L.treeAt m)))
abbrev C_told_blocks : Prop := ∀ (Q : Pic), CX1 P W K mg base 1 "told_blocks" ["picture"] (PX K cl [ePic Q] (Pc Q) (lNs (toldBlocks Q)))
abbrev C_tells : Prop := ∀ (Q : Pic) (h : List Nat) (p : Nat), CX1 P W K mg base 4 "tells" ["picture", "tree", "place"] (PX K cl [ePic Q, eTree h, eN p] (Pc Q ∧ Tr h ∧ h.length = Q.blocks ∧ p ∈ Q.told.map (·.1)) (.bl (tellsB Q h p)))
end
theorem ok_laid_or_none {f : Addr} {fd : FuncData} (B : Bl mg) (kf : Kf K cl) (C1 : C_ties_known P W K mg base cl) (C2 : C_way_up P W K mg base cl) (C3 : K_Laid P W K mg base cl) (C4 : M_hung_by P W K mg base cl) (C5 : M_digits P W K mg base cl) (C6 : C_does_fit P W K mg base cl) (F : FnA K "laid_or_none" "laid_or_none" s_laid_or_none f fd) (Q : Pic) : FnOk P W K mg base CX0 5 f fd ["picture"] (PX K cl [ePic Q] (Pc Q ∧ LayP Q) (dOpt eLd (laidOrNone Q))) := by
  refine fn_px F sc_laid_or_none rfl fun ⟨hQ, hL⟩ cdv A outer s H E hr => ?_
  have hm := hQ.most
  refine wss_cons (ws_setp 1 sc_laid_or_none.nd (wp_px (C1 Q) hr (by omega) (wa_cons (wp_v 0) wa_nil) hQ pass0) ?_)
  cases hk : tiesKnown Q with
  | none =>
    refine wss_cons (ws_if (wt_isN (d := .non) (wp_v 1) isN_non) (fun _ => wss_one (ws_ret wp_non ?_)) fun z => by cases z)
    unfold laidOrNone
    rw [hk]
    rfl
  | some ties =>
    refine wss_cons (ws_if (wt_isN (d := eD eN ties) (wp_v 1) isN_dic) (fun z => by cases z) fun _ => wss_nil ?_)
    refine wss_cons (ws_setLcm 2 (xs := List.range (Q.blocks + 1)) (enc := eN) (g := fun p => dOpt lNs (wayU ties (Q.blocks + 1) p)) (ra := fun p => [.d (ePic Q), .d (eD eN ties), .u, .d (eN p), .u, .u, .u]) [("place", 3)] rfl sc_laid_or_none.nd (blk : BlkOk N_laid_or_none (defScope s_laid_or_none) _ _) (by rw [List.length_range]; omega) (wi_range B (wp_addN (wp_fld kf.pic kf.pblocks (wp_v 0) rfl) (wp_k 1)) (by omega)) (fun i hi => hi) (fun y hy _ _ _ _ _ => wg_n 3 sc_laid_or_none.nd) (fun y hy _ _ _ _ _ => wp_px (C2 ties y Q.blocks) hr (by omega) (wa_cons (wp_v 1) (wa_cons (wp_v 3) (wa_cons (wp_fld kf.pic kf.pblocks (wp_v 0) rfl) wa_nil))) (by omega) pass0) ?_)
    have hsh : Sh 60 (.lst ((List.range (Q.blocks + 1)).map fun p => dOpt lNs (wayU ties (Q.blocks + 1) p))) := sh_lst (sh_map (fun p => by
      cases wayU ties (Q.blocks + 1) p with
      | none => exact sh_non
      | some l => exact sh_lst (sh_map (fun _ => sh_int) l)) _)
    have hany : (((List.range (Q.blocks + 1)).map fun p => dOpt lNs (wayU ties (Q.blocks + 1) p)).any fun z => PyData.eqv (pyD z) (pyD .non)) = ((List.range (Q.blocks + 1)).map fun p => wayU ties (Q.blocks + 1) p).contains none := by
      rw [List.any_map, Bool.eq_iff_iff, List.contains_iff_mem, List.any_eq_true, List.mem_map]
      constructor
      · rintro ⟨p, hp, e⟩
        refine ⟨p, hp, ?_⟩
        cases q : wayU ties (Q.blocks + 1) p with
        | none => rfl
        | some l =>
          exfalso
          have e : PyData.eqv (pyD (dOpt lNs (wayU ties (Q.blocks + 1) p))) .none = true := e
          rw [q] at e
          simp [dOpt, pyD, PyData.eqv] at e
      · rintro ⟨p, hp, e⟩
        refine ⟨p, hp, ?_⟩
        show PyData.eqv (pyD (dOpt lNs (wayU ties (Q.blocks + 1) p))) .none = true
        rw [e]
        simp [dOpt, pyD, PyData.eqv]
    refine wss_cons (ws_if (wt_inDL hr wp_non (wp_v 2) sh_non hsh hany) (fun z => ?_) fun z => wss_nil ?_)
    · refine wss_one (ws_ret wp_non ?_)
      have : waysOf Q ties = none := allSome_none (List.contains_iff_mem.mp z)
      unfold laidOrNone
      rw [hk]
      simp only [this]
      rfl
    · have hno : none ∉ (List.range (Q.blocks + 1)).map fun p => wayU ties (Q.blocks + 1) p := fun h => by
        rw [List.contains_iff_mem.mpr h] at z
        cases z
      obtain ⟨ways, hw, hw2⟩ := allSome_some hno
      have hway : waysOf Q ties = some ways := hw
      have hlen : ways.length = Q.blocks + 1 := by
        have := congrArg List.length hw2
        rw [List.length_map, List.length_map, List.length_range] at this
        exact this.symm
      have hdat : ((List.range (Q.blocks + 1)).map fun p => dOpt lNs (wayU ties (Q.blocks + 1) p)) = ways.map lNs := by
        have : ((List.range (Q.blocks + 1)).map fun p => dOpt lNs (wayU ties (Q.blocks + 1) p)) = ((List.range (Q.blocks + 1)).map fun p => wayU ties (Q.blocks + 1) p).map (dOpt lNs) := by
          rw [List.map_map]
          rfl
        rw [this, hw2, List.map_map]
        rfl
      rw [hdat]
      have hgood : ∀ l ∈ ways, l ≠ [] ∧ l.length ≤ 1000 := fun l hl => by
        have : some l ∈ (List.range (Q.blocks + 1)).map fun p => wayU ties (Q.blocks + 1) p := by
          rw [hw2]
          exact List.mem_map.mpr ⟨l, hl, rfl⟩
        obtain ⟨p, _, e⟩ := List.mem_map.mp this
        have := wayU_len _ _ _ e
        exact ⟨this.1, by omega⟩
      obtain ⟨ok1, ok2⟩ := hL ties ways hk hway
      have hlay : laidOrNone Q = if (mkLaid Q ties ways).tops.length > 1 ∧ ((mkLaid Q ties ways).lots.getD 0 []).length = 0 then none else if doesFit Q ((mkLaid Q ties ways).hungBy ((mkLaid Q ties ways).digits.map fun l => l.getD 0 0)) then some (mkLaid Q ties ways) else none := by
        unfold laidOrNone
        rw [hk]
        simp only [hway]
      have hbl : (mkLaid Q ties ways).blocks = Q.blocks := rfl
      refine wss_cons (ws_setp 4 sc_laid_or_none.nd (d := eLd (mkLaid Q ties ways)) (wp_make (C3 Q ties ways) (hr.mono (by omega : 1 + 1 ≤ 4)) (wa_cons (wp_v 0) (wa_cons (wp_v 1) (wa_cons (wp_v 2) wa_nil))) ⟨hQ, by omega, hgood⟩ pass0) ?_)
      generalize mkLaid Q ties ways = L at ok1 ok2 hlay hbl
      refine wss_cons (ws_if (t := decide (1 < L.tops.length) && decide ((L.lots.getD 0 []).length = 0)) (wt_ww (ww_and (wt_gtN (wp_lenLm B (wp_fld kf.lad kf.tops (wp_v 4) rfl)) (wp_k 1)) fun _ => ww_and1 (wt_eqN (wp_lenTm B (wp_ixLm (enc := eNs) (k := 0) (wp_fld kf.lad kf.lots (wp_v 4) rfl) (wp_k 0) ok1.lot0)) (wp_k 0)))) (fun z => ?_) fun z => wss_nil ?_)
      · refine wss_one (ws_ret wp_non ?_)
        rw [hlay, if_pos]
        · rfl
        · rw [Bool.and_eq_true] at z
          exact ⟨of_decide_eq_true z.1, of_decide_eq_true z.2⟩
      · have hcond : ¬ (L.tops.length > 1 ∧ (L.lots.getD 0 []).length = 0) := fun ⟨h1, h2⟩ => by
          rw [decide_eq_true h2, Bool.and_true] at z
          exact of_decide_eq_false z h1
        have ok3 := ok2 hcond
        rw [if_neg hcond] at hlay
        have hin := inDig_firsts ok3.dig
        obtain ⟨no, T, _⟩ := ok3.tree _ hin
        refine wss_cons (ws_setp 5 sc_laid_or_none.nd (wp_mx (C4 L (L.digits.map fun l => l.getD 0 0)) hr (by omega) (wp_v 4) (wa_cons (wp_is (wp_lcm (xs := L.digits) (enc := eNs) (g := fun l => eN (l.getD 0 0)) (ra := fun l => [.d (ePic Q), .d (eD eN ties), .d (.lst (ways.map lNs)), .u, .d (eLd L), .u, .d (eNs l)]) [("lot", 6)] rfl sc_laid_or_none.nd (blk : BlkOk N_laid_or_none (defScope s_laid_or_none) _ _) ?_ (wi_L (wp_mx0 (C5 L) hr (by omega) (wp_v 4) (by decide) ok1 pass0)) (fun i hi => hi) (fun y hy _ _ _ _ _ => wg_n 6 sc_laid_or_none.nd) (fun y hy _ _ _ _ _ => wp_ixTm (enc := eN) (k := 0) (wp_v 6) (wp_k 0) (get_getD ?_))) ?_) wa_nil) (by decide) ⟨ok1, no⟩ pass0) ?_)
        · have := no.len
          have := ok1.tlen
          rw [List.length_map] at *
          omega
        · have := ok3.dig y hy
          exact List.length_pos_iff.mpr this
        · show D.lst _ = D.lst _
          rw [List.map_map]
          rfl
        · refine wss_one (ws_ret (wp_if (d := dOpt eLd (laidOrNone Q)) (wt_val (wp_px (C6 Q (L.hungBy (L.digits.map fun l => l.getD 0 0))) hr (by omega) (wa_cons (wp_v 0) (wa_cons (wp_v 5) wa_nil)) ⟨hQ, fun _ => T⟩ pass0)) (fun h => wp_is (wp_v 4) ?_) (fun h => wp_is wp_non ?_)) rfl)
          · rw [hlay, if_pos h]
            rfl
          · rw [hlay, if_neg (by rw [h]; exact Bool.false_ne_true)]
            rfl
theorem inDig_app : ∀ {a b : List (List Nat)} {x y : List Nat}, InDig a x → InDig b y → InDig (a ++ b) (x ++ y)
  | [], _, _, _, h, k => by
    obtain rfl : _ = [] := h
    exact k
  | _ :: _, _, _, _, ⟨n, m, e, h1, h2⟩, k => by
    subst e
    exact ⟨n, _, rfl, h1, inDig_app h2 k⟩
theorem inDig_rev : ∀ {a : List (List Nat)} {x : List Nat}, InDig a x → InDig a.reverse x.reverse
  | [], _, h => by
    obtain rfl : _ = [] := h
    exact rfl
  | l :: a, _, ⟨n, m, e, h1, h2⟩ => by
    subst e
    rw [List.reverse_cons, List.reverse_cons]
    exact inDig_app (inDig_rev h2) ⟨n, [], rfl, h1, rfl⟩
theorem inDig_notes : ∀ {a : List (List Nat)} (m : Nat), (∀ l ∈ a, l ≠ []) → InDig a (notesAt a m)
  | [], _, _ => rfl
  | l :: a, m, h => by
    refine ⟨_, _, rfl, ?_, inDig_notes _ fun x hx => h x (List.mem_cons_of_mem _ hx)⟩
    have hp : 0 < l.length := List.length_pos_iff.mpr (h l List.mem_cons_self)
    exact List.mem_of_getElem? (get_getD (Nat.mod_lt m hp))
theorem ok_raw_tree_at {f : Addr} {fd : FuncData} (B : Bl mg) (kf : Kf K cl) (C1 : M_hung_by P W K mg base cl) (C2 : M_digits P W K mg base cl) (C3 : K_Tree P W K mg base cl) (F : FnA K "raw_tree_at" "raw_tree_at" s_raw_tree_at f fd) (L : Ld) (m : Nat) : FnOk P W K mg base CX0 5 f fd ["found", "number"] (PX K cl [eLd L, eN m] (LayOk L) (eTree (L.treeAt m))) := by
  refine fn_px F sc_raw_tree_at rfl fun hL cdv A outer s H E hr => ?_
  have hin := inDig_firsts hL.dig
  have hlen : L.digits.length ≤ 16 := by
    have := (hL.tree _ hin).1.len
    have := hL.ld.tlen
    rw [List.length_map] at *
    omega
  have hsz : ∀ l ∈ L.digits, l.length ≤ 16 := fun l hl => by
    unfold Ld.digits at hl
    split at hl
    · rcases List.mem_append.mp hl with h | h
      · rw [(List.mem_replicate.mp h).2]
        exact hL.ld.elen
      · have : l = L.lots.getD 0 [] := by simpa using h
        rw [this]
        exact hL.ld.llen
    · cases hl
  refine wss_cons (ws_newL 2 sc_raw_tree_at.nd wa_nil (by decide) ?_)
  refine wss_cons (ws_for (ds := L.digits.reverse.map eNs) PassesOwn.never rfl (wi_is (wi_L (wp_rev (wp_mx0 (C2 L) hr (by omega) (wp_v 0) (by decide) hL.ld pass0) (by rw [List.length_map]; omega))) (by rw [List.map_reverse])) (fun i r1 w1 => ∃ (x3 : Sl) (acc : List Nat) (num : Nat), notesAt L.digits.reverse m = acc ++ notesAt (L.digits.reverse.drop i) num ∧ acc.length ≤ i ∧ r1 = [.d (eLd L), .d (eN num), .o 0, x3] ∧ w1 = [.lst (acc.map eN)]) ⟨.u, [], m, rfl, Nat.le_refl _, rfl, rfl⟩ (fun i x r1 w1 e hP => ?_) fun r1 w1 hP => ?_)
  · obtain ⟨x3, acc, num, hn, hac, rfl, rfl⟩ := hP
    obtain ⟨l, hl, rfl⟩ : ∃ l, L.digits.reverse[i]? = some l ∧ eNs l = x := by
      rw [List.getElem?_map] at e
      exact Option.map_eq_some_iff.mp e
    have hi := (List.getElem?_eq_some_iff.mp hl).1
    have hlm : l ∈ L.digits := List.mem_reverse.mp (List.mem_of_getElem? hl)
    have hpos : 0 < l.length := List.length_pos_iff.mpr (hL.dig l hlm)
    have h16 := hsz l hlm
    rw [List.length_reverse] at hi
    have hd : L.digits.reverse.drop i = l :: L.digits.reverse.drop (i + 1) := by
      rw [List.drop_eq_getElem_cons (by rw [List.length_reverse]; exact hi)]
      congr 1
      exact (List.getElem?_eq_some_iff.mp hl).2
    rw [hd] at hn
    refine ⟨_, _, wg_n 3 sc_raw_tree_at.nd, ?_⟩
    refine wss_cons (ws_append 2 rfl rfl (d := eN (l.getD (num % l.length) 0)) (wp_ixTm (enc := eN) (k := num % l.length) (wp_v 3) (wp_is (wp_mod (wp_v 1) (wp_lenTm B (wp_v 3)) (by omega)) (by show D.int _ = D.int _; rw [Int.natCast_emod])) (get_getD (Nat.mod_lt _ hpos))) (by rw [List.length_map]; omega) ?_)
    refine wss_one (ws_setp 1 sc_raw_tree_at.nd (d := eN (num / l.length)) (wp_is (wp_fdiv (wp_v 1) (wp_lenTm B (wp_v 3)) ⟨by omega, by omega⟩) (by show D.int _ = D.int _; rw [Int.natCast_ediv])) ⟨_, .refl _, .d (eNs l), acc ++ [l.getD (num % l.length) 0], num / l.length, ?_, by rw [List.length_append, List.length_singleton]; omega, rfl, ?_⟩)
    · rw [hn, List.append_assoc]
      rfl
    · show [Ow.lst _] = [Ow.lst _]
      rw [List.map_append]
      rfl
  · obtain ⟨x3, acc, num, hn, hac, rfl, rfl⟩ := hP
    rw [List.length_map, List.drop_length] at hn
    have hn : notesAt L.digits.reverse m = acc ++ [] := hn
    rw [List.append_nil] at hn
    rw [List.length_map, List.length_reverse] at hac
    have hin2 : InDig L.digits acc.reverse := by
      have h1 := inDig_notes (a := L.digits.reverse) m fun l hl => hL.dig l (List.mem_reverse.mp hl)
      rw [hn] at h1
      have h2 := inDig_rev h1
      rw [List.reverse_reverse] at h2
      exact h2
    obtain ⟨no, T, ne⟩ := hL.tree _ hin2
    refine wss_sub (r' := [.d (eLd L), .d (eN num), .o 0, .u]) (.same (.same (.same (.u .nil)))) ?_
    refine wss_share 2 0 rfl rfl rfl (Nat.zero_le _) (no_o (by simp)) ?_
    refine wss_one (ws_ret (wp_make (C3 (L.hungBy acc.reverse)) (hr.mono (by omega : 3 + 1 ≤ 4)) (wa_cons (wp_mx (C1 L acc.reverse) hr (by omega) (wp_v 0) (wa_cons (wp_is (wp_rev (wp_v 2) (by rw [List.length_map]; omega)) (by show D.lst _ = D.lst _; rw [List.map_reverse])) wa_nil) (by decide) ⟨hL.ld, no⟩ pass0) wa_nil) ⟨T, by rw [hungBy_len]; exact hL.one, ne⟩ pass0) ?_)
    show Sl.d _ = Sl.d (eTree (L.treeAt m))
    unfold Ld.treeAt
    rw [hn]

theorem ok_told_blocks {f : Addr} {fd : FuncData} (B : Bl mg) (G : Gn mg) (kf : Kf K cl) (F : FnA K "told_blocks" "told_blocks" s_told_blocks f fd) (Q : Pic) : FnOk P W K mg base CX0 1 f fd ["picture"] (PX K cl [ePic Q] (Pc Q) (lNs (toldBlocks Q))) := by
  refine fn_px F sc_told_blocks rfl fun hQ cdv A outer s H E hr => ?_
  have htl := hQ.told_len
  refine wss_one (ws_ret (wp_is (wp_lc (xs := Q.told) (enc := fun q => eN q.1) (f := fun q => !decide (q.1 = 0)) (g := fun q => eN q.1) (ra := fun q => [.d (ePic Q), .d (eN q.1)]) [("place", 1)] rfl sc_told_blocks.nd (blk : BlkOk N_told_blocks (defScope s_told_blocks) _ _) (by omega) (wi_L (wp_sortK B rfl hQ.asc (by omega) (wp_fld kf.pic kf.told (wp_v 0) rfl))) (fun i hi => hi) (fun y hy _ _ _ _ _ => wg_n 1 sc_told_blocks.nd) (fun y hy _ _ _ _ _ => wts_one (wt_neN (wp_v 1) (wp_gint G.head))) (fun y hy _ _ _ _ _ _ => wp_v 1)) ?_) rfl)
  show D.lst _ = D.lst _
  unfold toldBlocks
  rw [List.filter_map, List.map_map]
  rfl
theorem look_key {β : Type} {l : List (Nat × β)} {k : Nat} (h : k ∈ l.map (·.1)) : ∃ x, l.lookup k = some x := by
  have : (l.lookup k).isSome = true := by
    rw [look_some]
    exact List.contains_iff_mem.mpr h
  exact Option.isSome_iff_exists.mp this
theorem look_le {Q : Pic} (hQ : Pc Q) {p : Nat} (h : p ∈ Q.told.map (·.1)) : p ≤ Q.blocks := by
  obtain ⟨q, hq, rfl⟩ := List.mem_map.mp h
  exact (hQ.form q hq).1
theorem ok_tells {f : Addr} {fd : FuncData} (B : Bl mg) (kf : Kf K cl) (C1 : C_raw_telling P W K mg base cl) (F : FnA K "tells" "tells" s_tells f fd) (Q : Pic) (h : List Nat) (p : Nat) : FnOk P W K mg base CX0 4 f fd ["picture", "tree", "place"] (PX K cl [ePic Q, eTree h, eN p] (Pc Q ∧ Tr h ∧ h.length = Q.blocks ∧ p ∈ Q.told.map (·.1)) (.bl (tellsB Q h p))) := by
  refine fn_px F sc_tells rfl fun ⟨hQ, T, hl, hp⟩ cdv A outer s H E hr => ?_
  obtain ⟨t, ht⟩ := look_key hp
  have hle := look_le hQ hp
  refine wss_one (ws_ret (wp_eqD hr (wp_dgetN (enc := eT) hr (wp_fld kf.pic kf.told (wp_v 0) rfl) (wp_v 2) ht) (wp_px (C1 h Q.view p) hr (by omega) (wa_cons (wp_fld kf.tree kf.hung (wp_v 1) rfl) (wa_cons (wp_fld kf.pic kf.view (wp_v 0) rfl) (wa_cons (wp_v 2) wa_nil))) ⟨T, by omega, by rw [hl]; exact hQ.most, hQ.view.2⟩ pass0) (sh_eT _) (sh_eT _) (tel_eqv _ _)) ?_)
  unfold tellsB
  rw [ht]
  rfl
end
end FV
set_option Elab.async false
set_option linter.all false
set_option maxRecDepth 100000
set_option maxHeartbeats 4000000
/-! Defs, tenth part: wrongs. -/
namespace FV
open PySem PySem.Spec PyProof.Rows L2
theorem lots_len {th : List Nat} (h : th.length ≤ 4) : ∀ k, (lotsOf th k).length ≤ 4 ^ k
  | 0 => by simp [lotsOf]
  | k + 1 => by
    have ih := lots_len h k
    have key : ∀ l : List (List Nat), (l.flatMap fun l => (th.filter fun t => l.isEmpty || decide (l.getLastD 0 < t)).map fun t => l ++ [t]).length ≤ l.length * 4 := by
      intro l
      induction l with
      | nil => simp
      | cons x l ih2 =>
        have := List.length_filter_le (fun t => x.isEmpty || decide (x.getLastD 0 < t)) th
        rw [List.flatMap_cons, List.length_append, List.length_map, List.length_cons, Nat.succ_mul]
        omega
    have := key (lotsOf th k)
    show (List.flatMap _ _).length ≤ _
    rw [Nat.pow_succ]
    exact Nat.le_trans this (Nat.mul_le_mul_right _ ih)
theorem lots_mem {th : List Nat} : ∀ {k : Nat} {l : List Nat}, l ∈ lotsOf th k → ∀ x ∈ l, x ∈ th
  | 0, l, h, x, hx => by
    have : l = [] := by simpa [lotsOf] using h
    rw [this] at hx
    cases hx
  | k + 1, l, h, x, hx => by
    unfold lotsOf at h
    obtain ⟨l', hl', h2⟩ := List.mem_flatMap.mp h
    obtain ⟨t, ht, rfl⟩ := List.mem_map.mp h2
    rcases List.mem_append.mp hx with h3 | h3
    · exact lots_mem hl' x h3
    · have : x = t := by simpa using h3
      rw [this]
      exact (List.mem_filter.mp ht).1
theorem lots_size {th : List Nat} : ∀ {k : Nat} {l : List Nat}, l ∈ lotsOf th k → l.length = k
  | 0, l, h => by
    have : l = [] := by simpa [lotsOf] using h
    rw [this]
    rfl
  | k + 1, l, h => by
    unfold lotsOf at h
    obtain ⟨l', hl', h2⟩ := List.mem_flatMap.mp h
    obtain ⟨t, ht, rfl⟩ := List.mem_map.mp h2
    rw [List.length_append, lots_size hl']
    rfl
theorem lots_small {th : List Nat} (h : th.length ≤ 4) {k : Nat} (hk : k ≤ 4) : (lotsOf th k).length ≤ 256 :=
  Nat.le_trans (lots_len h k) (Nat.pow_le_pow_right (by decide) hk)
theorem lots_zero {Q : Pic} {k : Nat} {l : List Nat} (h : l ∈ lotsOf (toldBlocks Q) k) : 0 ∉ l := fun h0 => by
  have := lots_mem h 0 h0
  have := (List.mem_filter.mp this).2
  simp at this
theorem lay_some {Q : Pic} (hL : LayP Q) {L : Ld} (h : laidOrNone Q = some L) : LayOk L := by
  unfold laidOrNone at h
  split at h
  · cases h
  · rename_i ties hk
    split at h
    · cases h
    · rename_i ways hw
      obtain ⟨h1, h2⟩ := hL ties ways hk hw
      simp only at h
      split at h
      · cases h
      · rename_i hc
        split at h
        · cases h
          exact h2 hc
        · cases h
abbrev dNear : Option (Nat × List Ld) → D
  | none => .tup [.non, .lst []]
  | some q => .tup [eN q.1, .lst (q.2.map eLd)]
section
variable {P : Program} {W : World} {K : PySem.W.Frag} {mg : Str → Option Value} {base : Heap} {cl : Nat → Addr}
/-- a picture small enough -/
structure Pw (Q : Pic) : Prop where
  pc : Pc Q
  few : (toldBlocks Q).length ≤ 4
section
variable (P : Program) (W : World) (K : PySem.W.Frag) (mg : Str → Option Value) (base : Heap) (cl : Nat → Addr)
abbrev C_lots_of : Prop := ∀ (th : List Nat) (k : Nat), CX1 P W K mg base 1 "lots_of" ["things", "many"] (PX K cl [lNs th, eN k] (th.length ≤ 4 ∧ k ≤ 4) (.lst ((lotsOf th k).map eNs)))
abbrev C_laid_without : Prop := ∀ (Q : Pic) (k : Nat), CX1 P W K mg base 8 "laid_without" ["picture", "many"] (PX K cl [ePic Q, eN k] (Pw Q ∧ k ≤ 4) (.lst ((laidWithout Q k).map eLd)))
abbrev C_mended : Prop := ∀ (Q : Pic), CX1 P W K mg base 9 "mended" ["picture"] (PX K cl [ePic Q] (Pw Q) (dOpt eTree (mendedOf Q)))
abbrev C_nearest_laid : Prop := ∀ (Q : Pic), CX1 P W K mg base 9 "nearest_laid" ["picture"] (PX K cl [ePic Q] (Pw Q ∧ Q.blocks ≤ 10 ∧ ∀ q, nearLaid Q = some q → (q.2.map Ld.many).sum ≤ 1000) (dNear (nearLaid Q)))
end
theorem ok_lots_of {f : Addr} {fd : FuncData} (B : Bl mg) (F : FnA K "lots_of" "lots_of" s_lots_of f fd) (th : List Nat) (k : Nat) : FnOk P W K mg base CX0 1 f fd ["things", "many"] (PX K cl [lNs th, eN k] (th.length ≤ 4 ∧ k ≤ 4) (.lst ((lotsOf th k).map eNs))) := by
  refine fn_px F sc_lots_of rfl fun ⟨ht, hk⟩ cdv A outer s H E hr => ?_
  refine wss_cons (ws_setp 2 sc_lots_of.nd (d := .lst ((lotsOf th 0).map eNs)) (wp_lst (ds := [.tup []]) (wa_cons (wp_tup wa_nil (by decide)) wa_nil) (by show 1 ≤ 100000; decide)) ?_)
  refine wss_cons (ws_for PassesOwn.never rfl (wi_range B (wp_v 1) (by omega)) (fun i r1 w1 => ∃ x3, r1 = [.d (lNs th), .d (eN k), .d (.lst ((lotsOf th i).map eNs)), x3, .u, .u] ∧ w1 = []) ⟨_, rfl, rfl⟩ (fun i x r1 w1 e hP => ?_) fun r1 w1 hP => ?_)
  · obtain ⟨x3, rfl, rfl⟩ := hP
    have hi : i < k := by
      have := (List.getElem?_eq_some_iff.mp e).1
      simpa using this
    have hsm := lots_small ht (Nat.le_of_lt (Nat.lt_of_lt_of_le hi hk))
    refine ⟨_, _, wg_n 3 sc_lots_of.nd, wss_one (ws_setLc2 2 (xs := lotsOf th i) (enc := eNs) (ys := fun _ => th) (enc1 := eN) (f := fun l t => l.isEmpty || decide (l.getLastD 0 < t)) (g := fun l t => eNs (l ++ [t])) (ra := fun l => [.d (lNs th), .d (eN k), .d (.lst ((lotsOf th i).map eNs)), .d x, .d (eNs l), .u]) (rb := fun l t => [.d (lNs th), .d (eN k), .d (.lst ((lotsOf th i).map eNs)), .d x, .d (eNs l), .d (eN t)]) [("lot", 4), ("thing", 5)] [5] rfl sc_lots_of.nd (blk : BlkOk N_lots_of (defScope s_lots_of) _ _) (by decide) (by omega) (fun _ _ => by omega) (wi_L (wp_v 2)) (by decide) (by decide) (fun l hl w' _ _ _ _ _ => wg_n 4 sc_lots_of.nd) (fun l hl w' _ _ _ _ _ => wi_L (wp_v 0)) (fun l hl t ht w' _ _ _ _ _ => wg_n 5 sc_lots_of.nd) (fun l hl t ht w' _ _ _ _ _ => ?_) (fun l hl t ht hf w' _ _ _ _ _ => ?_) ⟨_, .refl _, .d x, ?_, rfl⟩)⟩
    · refine wt_is (wt_ww (ww_or (wt_eqN (wp_lenTm B (wp_v 4)) (wp_k 0)) fun h => ww_or1 (wt_ltN (wp_ixT (z := eN (l.getLastD 0)) (wp_v 4) (wp_neg (wp_k 1)) (last_ix ?_)) (wp_v 5)))) ?_
      · intro z
        rw [z] at h
        cases h
      · cases l <;> rfl
    · refine wp_is (wp_catT (wp_v 4) (wp_tup (ds := [eN t]) (wa_cons (wp_v 5) wa_nil) (by show 1 ≤ 100000; decide)) ?_) ?_
      · rw [List.length_map, lots_size hl]
        show i + 1 ≤ 100000
        omega
      · show D.tup _ = D.tup _
        rw [List.map_append]
        rfl
    · show _ = [_, _, _, _, _, _]
      have : (List.flatMap (fun x => List.map (fun t => eNs (x ++ [t])) (List.filter (fun t => x.isEmpty || decide (x.getLastD 0 < t)) th)) (lotsOf th i)) = (lotsOf th (i + 1)).map eNs := by
        show _ = List.map eNs (List.flatMap _ _)
        rw [List.map_flatMap]
        congr 1
        funext l
        rw [List.map_map]
        rfl
      rw [this]
      rfl
  · obtain ⟨x3, rfl, rfl⟩ := hP
    refine wss_one (ws_ret (wp_v 2) ?_)
    rw [List.length_map, List.length_range]

theorem sum_cast (l : List Nat) : (l.map fun n : Nat => (n : Int)).sum = ((l.sum : Nat) : Int) := by
  induction l with
  | nil => rfl
  | cons x l ih =>
    rw [List.map_cons, List.sum_cons, List.sum_cons, ih]
    omega
theorem lw_data (Q : Pic) (k : Nat) : laidWithout Q k = ((lotsOf (toldBlocks Q) k).map fun l => laidOrNone (FV.without Q l)).filterMap id := rfl
theorem opt_rows {α : Type} (enc : α → D) (l : List (Option α)) : (l.filter (·.isSome)).map (dOpt enc) = (l.filterMap id).map enc := by
  induction l with
  | nil => rfl
  | cons x l ih =>
    cases x with
    | none => simpa using ih
    | some y =>
      simp only [List.filter_cons, Option.isSome_some, if_true, List.map_cons, List.filterMap_cons, id]
      rw [ih]
      rfl
theorem ok_laid_without {f : Addr} {fd : FuncData} (hM : ∀ Q, Pc Q → LayP Q) (B : Bl mg) (C1 : C_told_blocks P W K mg base cl) (C2 : C_lots_of P W K mg base cl) (C3 : C_without P W K mg base cl) (C4 : C_laid_or_none P W K mg base cl) (F : FnA K "laid_without" "laid_without" s_laid_without f fd) (Q : Pic) (k : Nat) : FnOk P W K mg base CX0 8 f fd ["picture", "many"] (PX K cl [ePic Q, eN k] (Pw Q ∧ k ≤ 4) (.lst ((laidWithout Q k).map eLd))) := by
  refine fn_px F sc_laid_without rfl fun ⟨hQ, hk⟩ cdv A outer s H E hr => ?_
  have hsm := lots_small hQ.few hk
  refine wss_cons (ws_setLcm 2 (xs := lotsOf (toldBlocks Q) k) (enc := eNs) (g := fun l => dOpt eLd (laidOrNone (FV.without Q l))) (ra := fun l => [.d (ePic Q), .d (eN k), .u, .d (eNs l), .u]) [("lot", 3)] rfl sc_laid_without.nd (blk : BlkOk N_laid_without (defScope s_laid_without) _ _) (by omega) (wi_L (wp_px (C2 (toldBlocks Q) k) hr (by omega) (wa_cons (wp_px (C1 Q) hr (by omega) (wa_cons (wp_v 0) wa_nil) hQ.pc pass0) (wa_cons (wp_v 1) wa_nil)) ⟨hQ.few, hk⟩ pass0)) (fun i hi => hi) (fun l hl _ _ _ _ _ => wg_n 3 sc_laid_without.nd) (fun l hl _ _ _ _ _ => ?_) ?_)
  · have hp := pc_without hQ.pc (lots_zero hl)
    exact wp_px (C4 (FV.without Q l)) hr (by omega) (wa_cons (wp_px (C3 Q l) hr (by omega) (wa_cons (wp_v 0) (wa_cons (wp_v 3) wa_nil)) ⟨hQ.pc, lots_zero hl⟩ pass0) wa_nil) ⟨hp, hM _ hp⟩ pass0
  · have e1 : D.lst ((lotsOf (toldBlocks Q) k).map fun l => dOpt eLd (laidOrNone (FV.without Q l))) = .lst (((lotsOf (toldBlocks Q) k).map fun l => laidOrNone (FV.without Q l)).map (dOpt eLd)) := by
      rw [List.map_map]
      rfl
    rw [e1]
    refine wss_one (ws_ret (wp_is (wp_lc (xs := (lotsOf (toldBlocks Q) k).map fun l => laidOrNone (FV.without Q l)) (enc := dOpt eLd) (f := fun o => !o.isNone) (g := dOpt eLd) (ra := fun o => [.d (ePic Q), .d (eN k), .d (.lst (((lotsOf (toldBlocks Q) k).map fun l => laidOrNone (FV.without Q l)).map (dOpt eLd))), .u, .d (dOpt eLd o)]) [("one", 4)] rfl sc_laid_without.nd (blk : BlkOk N_laid_without (defScope s_laid_without) _ _) (by rw [List.length_map]; omega) (wi_L (wp_v 2)) (fun i hi => hi) (fun o ho _ _ _ _ _ => wg_n 4 sc_laid_without.nd) (fun o ho _ _ _ _ _ => wts_one (wt_notN (wp_v 4) ?_)) (fun o ho _ _ _ _ _ _ => wp_v 4)) ?_) rfl)
    · cases o with
      | none => exact isN_non
      | some L => exact isN_obj
    · show D.lst _ = D.lst _
      rw [lw_data, ← opt_rows]
      congr 2
      apply List.filter_congr
      intro o _
      cases o <;> rfl
theorem lw_ok (hM : ∀ Q, Pc Q → LayP Q) {Q : Pic} (hQ : Pw Q) {k : Nat} {L : Ld} (h : L ∈ laidWithout Q k) : LayOk L := by
  rw [lw_data] at h
  obtain ⟨o, ho, e⟩ := List.mem_filterMap.mp h
  obtain ⟨l, hl, rfl⟩ := List.mem_map.mp ho
  have hp := pc_without hQ.pc (lots_zero hl)
  exact lay_some (hM _ hp) e
theorem ok_mended {f : Addr} {fd : FuncData} (hM : ∀ Q, Pc Q → LayP Q) (B : Bl mg) (kf : Kf K cl) (C1 : C_told_blocks P W K mg base cl) (C2 : C_raw_distance P W K mg base cl) (C3 : C_laid_without P W K mg base cl) (C4 : C_raw_tree_at P W K mg base cl) (F : FnA K "mended" "mended" s_mended f fd) (Q : Pic) : FnOk P W K mg base CX0 9 f fd ["picture"] (PX K cl [ePic Q] (Pw Q) (dOpt eTree (mendedOf Q))) := by
  refine fn_px F sc_mended rfl fun hQ cdv A outer s H E hr => ?_
  have hfew := hQ.few
  have hmost := hQ.pc.most
  refine wss_cons (ws_setp 1 sc_mended.nd (wp_px (C1 Q) hr (by omega) (wa_cons (wp_v 0) wa_nil) hQ.pc pass0) ?_)
  refine wss_cons (ws_setp 2 sc_mended.nd (d := .int (room Q)) (wp_sub (wp_sub (wp_px (C2 Q.view) hr (by omega) (wa_cons (wp_fld kf.pic kf.view (wp_v 0) rfl) wa_nil) trivial pass0) (wp_k 1)) (wp_sub (wp_fld kf.pic kf.pblocks (wp_v 0) rfl) (wp_lenLm B (wp_v 1)))) ?_)
  generalize hN : ((if room Q / 2 < ((toldBlocks Q).length : Int) then room Q / 2 else ((toldBlocks Q).length : Int)) + 1).toNat = N
  have hNle : N ≤ 5 := by
    rw [← hN]
    split <;> omega
  have hmend : mendedOf Q = mendFrom Q N 0 := by
    unfold mendedOf
    rw [← hN]
    congr 2
    split <;> rfl
  refine wss_cons (ws_for (ds := (List.range N).map eN) PassesOwn.never rfl (wi_is (wi_r1 B (wp_add (wp_min2 B rfl (wp_lenLm B (wp_v 1)) (wp_fdiv (wp_v 2) (wp_k 2) ⟨by omega, by omega⟩)) (wp_k 1)) ?_) ?_) (fun i r1 w1 => ∃ x3 x4, mendedOf Q = mendFrom Q (N - i) i ∧ r1 = [.d (ePic Q), .d (lNs (toldBlocks Q)), .d (.int (room Q)), x3, x4] ∧ w1 = []) ⟨_, _, hmend, rfl, rfl⟩ (fun i x r1 w1 e hP => ?_) fun r1 w1 hP => ?_)
  · have hroom : -100 ≤ room Q := by
      unfold room
      omega
    split <;> omega
  · rw [← hN, rng0]
    rfl
  · obtain ⟨x3, x4, hme, rfl, rfl⟩ := hP
    obtain ⟨q, hq, rfl⟩ : ∃ q, (List.range N)[i]? = some q ∧ eN q = x := by
      rw [List.getElem?_map] at e
      exact Option.map_eq_some_iff.mp e
    have hi : i < N := by
      have := (List.getElem?_eq_some_iff.mp hq).1
      simpa using this
    have hqi : q = i := by
      have := (List.getElem?_eq_some_iff.mp hq).2
      simpa using this.symm
    subst hqi
    obtain ⟨j, hj⟩ : ∃ j, N - q = j + 1 := ⟨N - q - 1, by omega⟩
    rw [hj] at hme
    refine ⟨_, _, wg_n 3 sc_mended.nd, ?_⟩
    refine wss_cons (ws_setp 4 sc_mended.nd (wp_px (C3 Q q) hr (by omega) (wa_cons (wp_v 0) (wa_cons (wp_v 3) wa_nil)) ⟨hQ, by omega⟩ pass0) ?_)
    refine wss_one (ws_if (wt_gtN (wp_lenLm B (wp_v 4)) (wp_k 0)) (fun h => ?_) fun h => wss_nil ⟨_, .refl _, .d (eN q), _, ?_, rfl, rfl⟩)
    · have h1 := of_decide_eq_true h
      obtain ⟨L, Ls, hLs⟩ : ∃ L Ls, laidWithout Q q = L :: Ls := by
        cases hh : laidWithout Q q with
        | nil =>
          rw [hh] at h1
          simp at h1
        | cons a l => exact ⟨a, l, rfl⟩
      have hok := lw_ok hM hQ (k := q) (L := L) (by rw [hLs]; exact List.mem_cons_self)
      refine wss_one (ws_ret (wp_px (C4 L 0) hr (by omega) (wa_cons (wp_ixLm (enc := eLd) (k := 0) (wp_v 4) (wp_k 0) (by rw [hLs]; rfl)) (wa_cons (wp_k 0) wa_nil)) hok pass0) ?_)
      have e2 : mendFrom Q (j + 1) q = some (L.treeAt 0) := by
        unfold mendFrom
        rw [hLs]
      rw [hme, e2]
      rfl
    · have h1 := of_decide_eq_false h
      have hnil : laidWithout Q q = [] := List.length_eq_zero_iff.mp (by omega)
      rw [hme, show N - (q + 1) = j by omega]
      conv => lhs; unfold mendFrom
      rw [hnil]
  · obtain ⟨x3, x4, hme, rfl, rfl⟩ := hP
    rw [List.length_map, List.length_range, Nat.sub_self] at hme
    refine wss_one (ws_ret wp_non ?_)
    rw [hme]
    rfl

theorem near_step {Q : Pic} : ∀ {n k : Nat} {q : Nat × List Ld}, nearFrom Q n k = some q → q.2 = laidWithout Q q.1 ∧ q.2 ≠ [] ∧ k ≤ q.1 ∧ q.1 < k + n
  | 0, _, _, h => by cases h
  | n + 1, k, q, h => by
    unfold nearFrom at h
    split at h
    · rename_i L r hL
      cases h
      exact ⟨hL.symm, by simp, Nat.le_refl _, by omega⟩
    · obtain ⟨h1, h2, h3, h4⟩ := near_step h
      exact ⟨h1, h2, by omega, by omega⟩
theorem ok_nearest_laid {f : Addr} {fd : FuncData} (hM : ∀ Q, Pc Q → LayP Q) (B : Bl mg) (G : Gn mg) (kf : Kf K cl) (C1 : C_told_blocks P W K mg base cl) (C2 : M_many P W K mg base cl) (C3 : C_laid_without P W K mg base cl) (F : FnA K "nearest_laid" "nearest_laid" s_nearest_laid f fd) (Q : Pic) : FnOk P W K mg base CX0 9 f fd ["picture"] (PX K cl [ePic Q] (Pw Q ∧ Q.blocks ≤ 10 ∧ ∀ q, nearLaid Q = some q → (q.2.map Ld.many).sum ≤ 1000) (dNear (nearLaid Q))) := by
  refine fn_px F sc_nearest_laid rfl fun ⟨hQ, hb, hs⟩ cdv A outer s H E hr => ?_
  have hfew := hQ.few
  refine wss_cons (ws_if (t := false) (wt_is (wt_gtN (wp_fld kf.pic kf.pblocks (wp_v 0) rfl) (wp_gint (i := ((10 : Nat) : Int)) G.mbw)) (by simpa using hb)) (fun z => by cases z) fun _ => wss_nil ?_)
  refine wss_cons (ws_for PassesOwn.never rfl (wi_range B (wp_addN (wp_lenLm B (wp_px (C1 Q) hr (by omega) (wa_cons (wp_v 0) wa_nil) hQ.pc pass0)) (wp_k 1)) (by omega)) (fun i r1 w1 => ∃ x1 x2, nearLaid Q = nearFrom Q ((toldBlocks Q).length + 1 - i) i ∧ r1 = [.d (ePic Q), x1, x2, .u] ∧ w1 = []) ⟨_, _, rfl, rfl, rfl⟩ (fun i x r1 w1 e hP => ?_) fun r1 w1 hP => ?_)
  · obtain ⟨x1, x2, hn, rfl, rfl⟩ := hP
    obtain ⟨q, hq, rfl⟩ : ∃ q, (List.range ((toldBlocks Q).length + 1))[i]? = some q ∧ eN q = x := by
      rw [List.getElem?_map] at e
      exact Option.map_eq_some_iff.mp e
    have hi : i < (toldBlocks Q).length + 1 := by
      have := (List.getElem?_eq_some_iff.mp hq).1
      simpa using this
    have hqi : q = i := by
      have := (List.getElem?_eq_some_iff.mp hq).2
      simpa using this.symm
    subst hqi
    obtain ⟨j, hj⟩ : ∃ j, (toldBlocks Q).length + 1 - q = j + 1 := ⟨(toldBlocks Q).length - q, by omega⟩
    rw [hj] at hn
    refine ⟨_, _, wg_n 1 sc_nearest_laid.nd, ?_⟩
    refine wss_cons (ws_setp 2 sc_nearest_laid.nd (wp_px (C3 Q q) hr (by omega) (wa_cons (wp_v 0) (wa_cons (wp_v 1) wa_nil)) ⟨hQ, by omega⟩ pass0) ?_)
    refine wss_one (ws_if (wt_gtN (wp_lenLm B (wp_v 2)) (wp_k 0)) (fun h => ?_) fun h => wss_nil ⟨_, .refl _, .d (eN q), .d (.lst ((laidWithout Q q).map eLd)), ?_, rfl, rfl⟩)
    · have h1 := of_decide_eq_true h
      have hnear : nearLaid Q = some (q, laidWithout Q q) := by
        rw [hn]
        unfold nearFrom
        cases hh : laidWithout Q q with
        | nil =>
          rw [hh] at h1
          simp at h1
        | cons a l => rfl
      have hsum := hs _ hnear
      have hsm : (laidWithout Q q).length ≤ 256 := by
        rw [lw_data]
        refine Nat.le_trans (List.length_filterMap_le _ _) ?_
        rw [List.length_map]
        exact lots_small hfew (by omega)
      refine wss_cons (ws_if (t := false) (wt_is (wt_gt (wp_sumL (ns := (laidWithout Q q).map fun L => ((L.many : Nat) : Int)) B rfl (wp_is (wp_lcm (xs := laidWithout Q q) (enc := eLd) (g := fun L => eN L.many) (ra := fun L => [.d (ePic Q), .d (eN q), .d (.lst ((laidWithout Q q).map eLd)), .d (eLd L)]) [("one", 3)] rfl sc_nearest_laid.nd (blk : BlkOk N_nearest_laid (defScope s_nearest_laid) _ _) (by omega) (wi_L (wp_v 2)) (fun i hi => hi) (fun L hL _ _ _ _ _ => wg_n 3 sc_nearest_laid.nd) (fun L hL _ _ _ _ _ => wp_mx0 (C2 L) hr (by omega) (wp_v 3) (by decide) (lw_ok hM hQ hL).ld pass0)) ?_)) (wp_gint G.mtr)) ?_) (fun z => by cases z) fun _ => wss_nil ?_)
      · rw [List.map_map]
        rfl
      · have e2 : ((laidWithout Q q).map fun L => ((L.many : Nat) : Int)).sum = ((((laidWithout Q q).map Ld.many).sum : Nat) : Int) := by
          rw [← sum_cast, List.map_map]
          rfl
        rw [e2, decide_eq_false]
        have hsum : ((laidWithout Q q).map Ld.many).sum ≤ 1000 := hsum
        omega
      · refine wss_one (ws_ret (wp_tup (wa_cons (wp_v 1) (wa_cons (wp_v 2) wa_nil)) (by show 2 ≤ 100000; decide)) ?_)
        rw [hnear]
    · have h1 := of_decide_eq_false h
      have hnil : laidWithout Q q = [] := List.length_eq_zero_iff.mp (by omega)
      rw [hn, show (toldBlocks Q).length + 1 - (q + 1) = j by omega]
      conv => lhs; unfold nearFrom
      rw [hnil]
  · obtain ⟨x1, x2, hn, rfl, rfl⟩ := hP
    rw [List.length_map, List.length_range, Nat.sub_self] at hn
    refine wss_one (ws_ret (wp_tup (wa_cons wp_non (wa_cons (wp_lst wa_nil (by decide)) wa_nil)) (by show 2 ≤ 100000; decide)) ?_)
    rw [hn]
    rfl

section
variable (P : Program) (W : World) (K : PySem.W.Frag) (mg : Str → Option Value) (base : Heap) (cl : Nat → Addr)
def NearOk (Q : Pic) : Prop := Pw Q ∧ Q.blocks ≤ 10 ∧ ∀ q, nearLaid Q = some q → (q.2.map Ld.many).sum ≤ 1000
def leastOf (Q : Pic) : Option Nat := (nearLaid Q).map (·.1)
def nearOf (Q : Pic) : List (List Nat) := sortL (foundOf ((nearLaid Q).elim [] (·.2)))
abbrev C_least_wrong : Prop := ∀ (Q : Pic), CX1 P W K mg base 10 "least_wrong" ["picture"] (PX K cl [ePic Q] (NearOk Q) (dOpt eN (leastOf Q)))
abbrev C_nearest : Prop := ∀ (Q : Pic), CX1 P W K mg base 10 "nearest" ["picture"] (PX K cl [ePic Q] (NearOk Q) (.lst ((nearOf Q).map eTree)))
end
theorem ok_least_wrong {f : Addr} {fd : FuncData} (B : Bl mg) (C1 : C_nearest_laid P W K mg base cl) (F : FnA K "least_wrong" "least_wrong" s_least_wrong f fd) (Q : Pic) : FnOk P W K mg base CX0 10 f fd ["picture"] (PX K cl [ePic Q] (NearOk Q) (dOpt eN (leastOf Q))) := by
  refine fn_px F sc_least_wrong rfl fun hQ cdv A outer s H E hr => ?_
  have h1 := C1 Q
  cases hn : nearLaid Q with
  | none =>
    rw [hn] at h1
    refine wss_one (ws_ret (wp_ixT (wp_px h1 hr (by omega) (wa_cons (wp_v 0) wa_nil) (by rw [← hn]; exact hQ) pass0) (wp_k 0) (z := .non) rfl) ?_)
    unfold leastOf
    rw [hn]
    rfl
  | some q =>
    rw [hn] at h1
    refine wss_one (ws_ret (wp_ixT (wp_px h1 hr (by omega) (wa_cons (wp_v 0) wa_nil) (by rw [← hn]; exact hQ) pass0) (wp_k 0) (z := eN q.1) rfl) ?_)
    unfold leastOf
    rw [hn]
    rfl
theorem found_mem {Ls : List Ld} {h : List Nat} (m : h ∈ foundOf Ls) : ∃ L ∈ Ls, ∃ j, h = L.treeAt j := by
  unfold foundOf at m
  obtain ⟨L, hL, h2⟩ := List.mem_flatMap.mp m
  obtain ⟨j, _, e⟩ := List.mem_map.mp h2
  exact ⟨L, hL, j, e.symm⟩
theorem tree_ok {L : Ld} (h : LayOk L) (m : Nat) : Tr (L.treeAt m) ∧ 1 ≤ (L.treeAt m).length ∧ ∀ b, 1 ≤ b → b ≤ (L.treeAt m).length → hangAt (L.treeAt m) b ≠ b := by
  have h1 := inDig_notes (a := L.digits.reverse) m fun l hl => h.dig l (List.mem_reverse.mp hl)
  have h2 := inDig_rev h1
  rw [List.reverse_reverse] at h2
  obtain ⟨_, h3, h4⟩ := h.tree _ h2
  refine ⟨h3, ?_, h4⟩
  unfold Ld.treeAt
  rw [hungBy_len]
  exact h.one
theorem found_len (Ls : List Ld) : (foundOf Ls).length = (Ls.map Ld.many).sum := by
  unfold foundOf
  induction Ls with
  | nil => rfl
  | cons L l ih =>
    rw [List.flatMap_cons, List.length_append, ih, List.map_cons, List.sum_cons, List.length_map, List.length_range]
theorem ok_nearest {f : Addr} {fd : FuncData} (hM : ∀ Q, Pc Q → LayP Q) (B : Bl mg) (kf : Kf K cl) (C1 : C_nearest_laid P W K mg base cl) (C2 : M_many P W K mg base cl) (C3 : C_raw_tree_at P W K mg base cl) (C4 : K_Tree P W K mg base cl) (F : FnA K "nearest" "nearest" s_nearest f fd) (Q : Pic) : FnOk P W K mg base CX0 10 f fd ["picture"] (PX K cl [ePic Q] (NearOk Q) (.lst ((nearOf Q).map eTree))) := by
  refine fn_px F sc_nearest rfl fun hQ cdv A outer s H E hr => ?_
  have h1 := C1 Q
  obtain ⟨Ls, hLs, hall, hsum, hix⟩ : ∃ Ls, (nearLaid Q).elim [] (·.2) = Ls ∧ (∀ L ∈ Ls, LayOk L) ∧ (Ls.map Ld.many).sum ≤ 1000 ∧ ∃ a, dNear (nearLaid Q) = .tup [a, .lst (Ls.map eLd)] := by
    cases hn : nearLaid Q with
    | none => exact ⟨[], rfl, fun L h => absurd h List.not_mem_nil, by decide, _, rfl⟩
    | some q =>
      refine ⟨q.2, rfl, fun L h => ?_, hQ.2.2 q hn, _, rfl⟩
      have := (near_step hn).1
      rw [this] at h
      exact lw_ok hM hQ.1 h
  obtain ⟨a0, hix⟩ := hix
  rw [hix] at h1
  have hlen : Ls.length ≤ 100000 ∨ True := .inr trivial
  refine wss_cons (ws_newL 1 sc_nearest.nd wa_nil (by decide) ?_)
  refine wss_cons (ws_for (ds := Ls.map eLd) PassesOwn.never rfl (wi_L (wp_ixT (wp_px h1 hr (by omega) (wa_cons (wp_v 0) wa_nil) hQ pass0) (wp_k 1) rfl)) (fun i r1 w1 => ∃ x2, r1 = [.d (ePic Q), .o 0, x2, .u, .u] ∧ w1 = [.lst ((foundOf (Ls.take i)).map eNs)]) ⟨_, rfl, rfl⟩ (fun i x r1 w1 e hP => ?_) fun r1 w1 hP => ?_)
  · obtain ⟨x2, rfl, rfl⟩ := hP
    obtain ⟨L, hL0, rfl⟩ : ∃ q, Ls[i]? = some q ∧ eLd q = x := by
      rw [List.getElem?_map] at e
      exact Option.map_eq_some_iff.mp e
    have hL := hall L (List.mem_of_getElem? hL0)
    have et : Ls.take (i + 1) = Ls.take i ++ [L] := by rw [List.take_add_one, hL0]; rfl
    have hfl : (foundOf (Ls.take (i + 1))).length ≤ 1000 := by
      have e1 : foundOf Ls = foundOf (Ls.take (i + 1)) ++ foundOf (Ls.drop (i + 1)) := by
        unfold foundOf
        rw [← List.flatMap_append, List.take_append_drop]
      have := congrArg List.length e1
      rw [found_len Ls, List.length_append] at this
      omega
    have ef : foundOf (Ls.take (i + 1)) = foundOf (Ls.take i) ++ (List.range L.many).map L.treeAt := by
      rw [et]
      unfold foundOf
      rw [List.flatMap_append]
      simp
    rw [ef, List.length_append, List.length_map, List.length_range] at hfl
    refine ⟨_, _, wg_n 2 sc_nearest.nd, wss_one (ws_extendL 1 rfl rfl (wp_lcm (xs := List.range L.many) (enc := eN) (g := fun m => eNs (L.treeAt m)) (ra := fun m => [.d (ePic Q), .o 0, .d (eLd L), .d (eN m), .u]) [("number", 3)] rfl sc_nearest.nd (blk : BlkOk N_nearest (defScope s_nearest) _ _) (by rw [List.length_range]; omega) (wi_range B (wp_mx0 (C2 L) hr (by omega) (wp_v 2) (by decide) hL.ld pass0) (by omega)) (fun i hi => hi) (fun m hm _ _ _ _ _ => wg_n 3 sc_nearest.nd) (fun m hm _ _ _ _ _ => wp_fld kf.tree kf.hung (wp_px (C3 L m) hr (by omega) (wa_cons (wp_v 2) (wa_cons (wp_v 3) wa_nil)) hL pass0) rfl)) ?_ ⟨_, .refl _, .d (eLd L), rfl, ?_⟩)⟩
    · rw [List.length_map, List.length_map, List.length_range]
      omega
    · show [Ow.lst _] = [Ow.lst _]
      rw [ef, List.map_append, List.map_map]
      rfl
  · obtain ⟨x2, rfl, rfl⟩ := hP
    rw [List.length_map, List.take_length]
    refine wss_sub (r' := [.d (ePic Q), .o 0, .u, .u, .u]) (.same (.same (.u (.same (.same .nil))))) ?_
    refine wss_share 1 0 rfl rfl rfl (Nat.zero_le _) (no_o (by simp)) ?_
    have hmem : ∀ h ∈ foundOf Ls, Tr h ∧ 1 ≤ h.length ∧ ∀ b, 1 ≤ b → b ≤ h.length → hangAt h b ≠ b := fun h hm => by
      obtain ⟨L, hL, j, rfl⟩ := found_mem hm
      exact tree_ok (hall L hL) j
    refine wss_one (ws_ret (wp_lcm (xs := sortL (foundOf Ls)) (enc := eNs) (g := eTree) (ra := fun h => [.d (ePic Q), .d (.lst ((foundOf Ls).map eNs)), .u, .u, .d (eNs h)]) [("hung", 4)] rfl sc_nearest.nd (blk : BlkOk N_nearest (defScope s_nearest) _ _) ?_ (wi_L (wp_sortL B hr (wp_v 1) ?_)) (fun i hi => hi) (fun m hm _ _ _ _ _ => wg_n 4 sc_nearest.nd) (fun h hm _ _ _ _ _ => wp_make (C4 h) (hr.mono (by omega : 3 + 1 ≤ 9)) (wa_cons (wp_v 4) wa_nil) (hmem h ((sortL_perm _).mem_iff.mp hm)) pass0)) ?_)
    · rw [(sortL_perm _).length_eq, found_len]
      omega
    · intro h hm z
      have := (hmem h hm).2.1
      rw [z] at this
      simp at this
    · unfold nearOf
      rw [hLs]
end
end FV
set_option Elab.async false
set_option linter.all false
set_option maxRecDepth 100000
set_option maxHeartbeats 4000000
/-! The law's own defs, first part: drawing. -/
namespace FV
open PySem PySem.Spec PyProof.Rows L2
def prePick (ds : List D) : Prop := ∃ m : Nat, ds = [eN m] ∧ 1 ≤ m ∧ m ≤ 100000
def postPick (ds : List D) (x : D) : Prop := ∀ m : Nat, ds = [eN m] → ∃ j, x = eN j ∧ j < m
theorem eN_inj {i j : Nat} (h : eN i = eN j) : i = j := by
  have := D.int.inj h
  omega
theorem mod_nat (b : Int) {m : Nat} (h : 1 ≤ m) : ∃ j : Nat, b % (m : Int) = (j : Int) ∧ j < m := by
  have h1 := Int.emod_nonneg b (show (m : Int) ≠ 0 by omega)
  have h2 := Int.emod_lt_of_pos b (show (0 : Int) < (m : Int) by omega)
  exact ⟨(b % (m : Int)).toNat, by omega, by omega⟩
section
variable {P : Program} {W : World} {K : PySem.W.Frag} {mg : Str → Option Value} {base : Heap} {cl : Nat → Addr}
section
variable (P : Program) (W : World) (K : PySem.W.Frag) (mg : Str → Option Value) (base : Heap) (cl : Nat → Addr)
abbrev C_pick : Prop := CX1 P W K mg base 1 "_law_pick" ["_law_tape_here", "_law_many"] (spT K cl prePick postPick)
end
theorem ok_l_pick {f : Addr} {fd : FuncData} (B : Bl mg) (F : FnA K "_law_pick" "_law_pick" s_l_pick f fd) : FnOk P W K mg base CX0 1 f fd ["_law_tape_here", "_law_many"] (spT K cl prePick postPick) := by
  refine fn_tape F sc_l_pick (fun ds ⟨m, h, _⟩ => by rw [h]; rfl) fun cdv A outer s H E hr ds ⟨many, e, h1, h2⟩ => ?_
  subst e
  have fin : ∀ {v : Int} {ns : List Int} {j b m' c : Int}, 0 ≤ j → 0 ≤ b → (∃ q : Nat, v = (q : Int) ∧ q < many) → ∃ ns2 j2 b2 m2 c2, [Ow.lst (tpD ns j b m' c)][0]? = some (.lst (tpD ns2 j2 b2 m2 c2)) ∧ (0 : Int) ≤ j2 ∧ (0 : Int) ≤ b2 ∧ ∃ d t, Sl.d (.int v) = .d d ∧ postPick [eN many] d ∧ [Ow.lst (tpD ns j b m' c)].set 0 .tape = .tape :: t := fun hj hb ⟨q, hq, hq2⟩ => ⟨_, _, _, _, _, rfl, hj, hb, _, [], rfl, fun m e => by
    have : many = m := eN_inj (by simpa using e)
    subst this
    exact ⟨q, by rw [hq], hq2⟩, rfl⟩
  refine wss_tapeOpen 0 rfl rfl fun ns j b m' c hj hb => wss_tapeClose 0 ?_
  refine wss_cons (ws_if (wt_peek 0 rfl rfl (wt_gt (wp_ixL (z := .int b) (wp_v 0) (wp_k 2) rfl) (wp_k 1))) (fun h => ?_) fun h => wss_nil ?_)
  · have hb1 : (1 : Int) < b := of_decide_eq_true h
    refine wss_cons (ws_setp 2 sc_l_pick.nd (wp_mod (wp_toint B (wp_peek 0 rfl rfl (wp_ixL (z := .int b) (wp_v 0) (wp_k 2) rfl) rfl)) (wp_v 1) (by omega)) ?_)
    refine wss_cons (ws_lset 0 rfl rfl (wp_fdiv (wp_peek 0 rfl rfl (wp_ixL (z := .int b) (wp_v 0) (wp_k 2) rfl) rfl) (wp_v 1) ⟨by omega, by omega⟩) (by show 2 < 5; decide) ?_)
    refine wss_one (ws_ret (wp_v 2) ?_)
    exact fin (b := b / many) hj (Int.ediv_nonneg hb (by omega)) (mod_nat b h1)
  · refine wss_cons (ws_lset 0 rfl rfl (wp_add (wp_peek 0 rfl rfl (wp_ixL (z := .int c) (wp_v 0) (wp_k 4) rfl) rfl) (wp_k 1)) (by show 4 < 5; decide) ?_)
    refine wss_cons (ws_setp 3 sc_l_pick.nd (wp_k 0) ?_)
    refine wss_cut (fun r1 w1 => ∃ (cell j2 : Int), 0 ≤ cell ∧ 0 ≤ j2 ∧ r1 = [.o 0, .d (eN many), .u, .d (.int cell), .u] ∧ w1 = [.lst (tpD ns j2 b m' (c + ((1 : Nat) : Int)))]) (ws_if (wt_peek 0 (u := .lst (tpD ns j b m' (c + ((1 : Nat) : Int)))) rfl rfl (wt_lt (wp_ixL (z := .int j) (wp_v 0) (wp_k 1) rfl) (wp_lenL B (wp_ixL (z := .lst (ns.map .int)) (wp_v 0) (wp_k 0) rfl)))) (fun hlt => ?_) fun _ => wss_nil ⟨0, j, Int.le_refl _, hj, rfl, rfl⟩) ?_
    · have hjl : j < ((ns.map D.int).length : Int) := of_decide_eq_true hlt
      rw [List.length_map] at hjl
      have hjn : j.toNat < ns.length := by omega
      have hat : L2.atI (ns.map D.int) j = some (.int ns[j.toNat]) := by
        have := at_nat (xs := ns.map D.int) (j := j.toNat) (z := .int ns[j.toNat]) (by rw [List.getElem?_map, List.getElem?_eq_getElem hjn]; rfl)
        rw [Int.toNat_of_nonneg hj] at this
        exact this
      refine wss_cons (ws_setp 3 sc_l_pick.nd (wp_abs B (wp_toint B (wp_peek 0 (u := .lst (tpD ns j b m' (c + ((1 : Nat) : Int)))) rfl rfl (wp_ixL (wp_ixL (z := .lst (ns.map .int)) (wp_v 0) (wp_k 0) rfl) (wp_ixL (z := .int j) (wp_v 0) (wp_k 1) rfl) hat) rfl))) ?_)
      refine wss_one (ws_lset 0 rfl rfl (wp_add (wp_peek 0 (u := .lst (tpD ns j b m' (c + ((1 : Nat) : Int)))) rfl rfl (wp_ixL (z := .int j) (wp_v 0) (wp_k 1) rfl) rfl) (wp_k 1)) (by show 1 < 5; decide) ⟨_, j + ((1 : Nat) : Int), ?_, by omega, rfl, rfl⟩)
      split <;> omega
    · rintro r1 w1 ⟨cell, j2, hc0, hj2, rfl, rfl⟩
      refine wss_cons (ws_if (wt_ge (wp_v 3) (wp_pow (wp_k 10) (wp_k 18) ⟨by omega, by omega, by decide⟩)) (fun h => ?_) fun h => wss_nil ?_)
      · refine wss_cons (ws_lset 0 rfl rfl (wp_fdiv (wp_v 3) (wp_v 1) ⟨by omega, by omega⟩) (by show 2 < 5; decide) ?_)
        refine wss_one (ws_ret (wp_mod (wp_toint B (wp_v 3)) (wp_v 1) (by omega)) ?_)
        exact fin (b := cell / many) hj2 (Int.ediv_nonneg hc0 (by omega)) (mod_nat cell h1)
      · refine wss_cons (ws_setp 4 sc_l_pick.nd (wp_mod (wp_toint B (wp_add (wp_add (wp_mul (wp_peek 0 (u := .lst (tpD ns j2 b m' (c + ((1 : Nat) : Int)))) rfl rfl (wp_ixL (z := .int m') (wp_v 0) (wp_k 3) rfl) rfl) (wp_k 48271) (.inr ⟨by omega, by omega⟩)) (wp_mod (wp_toint B (wp_v 3)) (wp_k 2147483629) (by omega))) (wp_mul (wp_peek 0 (u := .lst (tpD ns j2 b m' (c + ((1 : Nat) : Int)))) rfl rfl (wp_ixL (z := .int (c + ((1 : Nat) : Int))) (wp_v 0) (wp_k 4) rfl) rfl) (wp_k 69621) (.inr ⟨by omega, by omega⟩)))) (wp_k 2147483647) (by omega)) ?_)
        generalize hmx : (m' * ((48271 : Nat) : Int) + cell % ((2147483629 : Nat) : Int) + (c + ((1 : Nat) : Int)) * ((69621 : Nat) : Int)) % ((2147483647 : Nat) : Int) = mx
        have hm1 : 0 ≤ mx := by
          rw [← hmx]
          exact Int.emod_nonneg _ (by decide)
        have hm2 : mx < 2147483647 := by
          rw [← hmx]
          exact Int.emod_lt_of_pos _ (by decide)
        refine wss_cons (ws_setp 4 sc_l_pick.nd (wp_mod (wp_toint B (wp_mul (wp_v 4) (wp_add (wp_fdiv (wp_v 4) (wp_k 1009) ⟨by omega, by omega⟩) (wp_k 40692)) (.inl ⟨by omega, by omega⟩))) (wp_k 2147483399) (by omega)) ?_)
        refine wss_cons (ws_lset 0 rfl rfl (wp_v 4) (by show 3 < 5; decide) ?_)
        refine wss_one (ws_ret (wp_mod (wp_toint B (wp_fdiv (wp_v 4) (wp_k 16) ⟨by omega, by omega⟩)) (wp_v 1) (by omega)) ?_)
        exact fin hj2 hb (mod_nat _ h1)
end
end FV
set_option Elab.async false
set_option linter.all false
set_option maxRecDepth 100000
set_option maxHeartbeats 4000000
/-! The law's own defs, second part. -/
namespace FV
open PySem PySem.Spec PyProof.Rows L2
def preAny (ds : List D) : Prop := ∃ xs : List D, ds = [.lst xs] ∧ 1 ≤ xs.length ∧ xs.length ≤ 100000
def postAny (ds : List D) (x : D) : Prop := ∀ xs : List D, ds = [.lst xs] → x ∈ xs
def preMixed (ds : List D) : Prop := ∃ l : List Nat, ds = [lNs l] ∧ l.length ≤ 100
def postMixed (ds : List D) (x : D) : Prop := ∀ l : List Nat, ds = [lNs l] → ∃ m, x = lNs m ∧ m.Perm l
def preLot (ds : List D) : Prop := ∃ (l : List Nat) (k : Nat), ds = [lNs l, eN k] ∧ l.length ≤ 100
def postLot (ds : List D) (x : D) : Prop := ∀ (l : List Nat) (k : Nat), ds = [lNs l, eN k] → ∃ m, x = eNs m ∧ ∀ y ∈ m, y ∈ l
theorem lNs_inj {a b : List Nat} (h : lNs a = lNs b) : a = b := by
  have h2 : a.map eN = b.map eN := D.lst.inj h
  clear h
  induction a generalizing b with
  | nil =>
    cases b with
    | nil => rfl
    | cons _ _ => simp at h2
  | cons x a ih =>
    cases b with
    | nil => simp at h2
    | cons y b =>
      rw [List.map_cons, List.map_cons, List.cons.injEq] at h2
      rw [eN_inj h2.1, ih h2.2]
section
variable {P : Program} {W : World} {K : PySem.W.Frag} {mg : Str → Option Value} {base : Heap} {cl : Nat → Addr}
section
variable (P : Program) (W : World) (K : PySem.W.Frag) (mg : Str → Option Value) (base : Heap) (cl : Nat → Addr)
abbrev C_any : Prop := CX1 P W K mg base 2 "_law_any" ["_law_tape_here", "_law_things"] (spT K cl preAny postAny)
abbrev C_mixed : Prop := CX1 P W K mg base 2 "_law_mixed" ["_law_tape_here", "_law_things"] (spT K cl preMixed postMixed)
abbrev C_lot : Prop := CX1 P W K mg base 3 "_law_lot" ["_law_tape_here", "_law_things", "_law_many"] (spT K cl preLot postLot)
abbrev C_goes_home : Prop := ∀ h : List Nat, CX1 P W K mg base 1 "_law_goes_home" ["_law_hung"] (PX K cl [eNs h] ((∀ x ∈ h, x ≤ h.length) ∧ h.length ≤ 100) (.bl (goesHome h)))
abbrev C_trees : Prop := ∀ n : Nat, CX1 P W K mg base 2 "_law_trees" ["_law_blocks"] (PX K cl [eN n] (n ≤ 4) (.lst ((lTrees n).map eNs)))
end
/-- a draw below m -/
theorem wq_pick {X : Cx} {r : List Sl} {w : List Ow} {nt : Str} {pt p pos : Pos} {a : Expr} {i nn m k' : Nat} (C : CX1 X.prog X.w X.K X.mg X.base 1 "_law_pick" ["_law_tape_here", "_law_many"] (spT X.K cl prePick postPick)) (hr : Room k' X.A) (hk : 1 ≤ k') (hsl : r[i]? = some (.o nn)) (hw : w[nn]? = some .tape) (ha : WP cl X r w a (eN m)) (h1 : 1 ≤ m) (h2 : m ≤ 100000) {E : XK} (hx : Passes CX0 X E) (hN : X.N[i]? = some nt := by rfl) (hv : Vis X.env.scope nt := by first | exact Or.inl rfl | exact Or.inr (Or.inl rfl) | exact Or.inr (Or.inr rfl)) (hd1 : (nt == ("__debug__" : Str)) = false := by decide)
    (hcd : (nt == ("__classdict__" : Str)) = false := by decide) (hg : Gl X "_law_pick" := by rfl) (he : starEach [.Name nt pt, a] X.env = (false, eval (.Name nt pt) X.env) :: starEach [a] X.env := by rfl) (he2 : starEach [a] X.env = (false, eval a X.env) :: starEach [] X.env := by rfl) (hpl : (backTo pos (starEach [a] X.env)).any (·.1) = false := by rfl) : WQ cl X r w (.Call (.Name "_law_pick" p) [.Name nt pt, a] [] pos) (fun x => ∃ j, x = eN j ∧ j < m) :=
  wq_tape C hr hk hsl hw (one_q (F := fun x => x = eN m) (wq_p ha rfl) he2) (fun ds ⟨x, e1, e2⟩ => ⟨⟨m, by rw [e1, e2], h1, h2⟩, fun y hy => hy m (by rw [e1, e2])⟩) hx hN hv hd1 hcd hg (by decide) he hpl
theorem ok_l_any {f : Addr} {fd : FuncData} (B : Bl mg) (C : C_pick P W K mg base cl) (F : FnA K "_law_any" "_law_any" s_l_any f fd) : FnOk P W K mg base CX0 2 f fd ["_law_tape_here", "_law_things"] (spT K cl preAny postAny) := by
  refine fn_tape F sc_l_any (fun ds ⟨m, h, _⟩ => by rw [h]; rfl) fun cdv A outer s H E hr ds ⟨xs, e, h1, h2⟩ => ?_
  subst e
  refine wss_one (ws_retq (wq_ixD (xs := xs) (wp_v 1) (wq_pick (i := 0) C hr (by omega) rfl rfl (wp_lenL B (wp_v 1)) h1 h2 pass0)) fun d hd => ⟨d, [], rfl, fun ys e => ?_, rfl⟩)
  have : xs = ys := by simpa using e
  rw [← this]
  exact hd
theorem erase_map {α β : Type} (g : α → β) : ∀ (l : List α) (j : Nat), (l.map g).eraseIdx j = (l.eraseIdx j).map g
  | [], _ => rfl
  | _ :: _, 0 => rfl
  | x :: l, j + 1 => by
    rw [List.map_cons, List.eraseIdx_cons_succ, erase_map g l j]
    rfl
theorem perm_erase {α : Type} : ∀ {l : List α} {j : Nat} {x : α}, l[j]? = some x → (x :: l.eraseIdx j).Perm l
  | [], _, _, h => by simp at h
  | y :: l, 0, x, h => by
    have : y = x := by simpa using h
    subst this
    exact .refl _
  | y :: l, j + 1, x, h => by
    have h2 : l[j]? = some x := by simpa using h
    rw [List.eraseIdx_cons_succ]
    exact (List.Perm.swap y x _).trans ((perm_erase h2).cons y)
theorem ok_l_mixed {f : Addr} {fd : FuncData} (B : Bl mg) (C : C_pick P W K mg base cl) (F : FnA K "_law_mixed" "_law_mixed" s_l_mixed f fd) : FnOk P W K mg base CX0 2 f fd ["_law_tape_here", "_law_things"] (spT K cl preMixed postMixed) := by
  refine fn_tape F sc_l_mixed (fun ds ⟨m, h, _⟩ => by rw [h]; rfl) fun cdv A outer s H E hr ds ⟨l, e, h1⟩ => ?_
  subst e
  refine wss_cons (ws_listO 2 B sc_l_mixed.nd (wp_v 1) ?_)
  refine wss_one (ws_rete (we_lc (xs := List.range l.length) (enc := eN) (ra := fun j => [.o 0, .d (lNs l), .o 1, .d (eN j)]) [("_law_at", 3)] (fun i w1 acc => ∃ (left out : List Nat), w1 = [.tape, .lst (left.map eN)] ∧ acc = out.map eN ∧ (out ++ left).Perm l ∧ out.length = i) rfl sc_l_mixed.nd (blk : BlkOk N_l_mixed (defScope s_l_mixed) _ _) (by rw [List.length_range]; omega) (wi_range B (wp_lenLm B (wp_v 1)) (by omega)) (fun i hi => hi) ⟨l, [], rfl, rfl, .refl _, rfl⟩ (fun i w1 acc ⟨left, out, e1, e2, _, e3⟩ => ⟨by rw [e1]; rfl, by rw [e2, List.length_map, e3]; exact Nat.le_refl _⟩) (fun x hx i w1 acc _ _ _ _ _ _ => wg_n 3 sc_l_mixed.nd) (fun x hx i w1 acc ei hP b1 b2 b3 b4 b5 => ?_) fun w1 acc hP => ?_))
  · obtain ⟨left, out, rfl, rfl, hp, hl⟩ := hP
    have hi : i < l.length := by
      have := (List.getElem?_eq_some_iff.mp ei).1
      simpa using this
    have hll : out.length + left.length = l.length := by
      have := hp.length_eq
      rw [List.length_append] at this
      exact this
    refine we_popAt 2 rfl rfl (wq_mono (wq_pick (i := 0) (m := left.length) C hr (by omega) rfl rfl (wp_peek 2 rfl rfl (wp_lenLm B (wp_v 2)) rfl) (by omega) (by omega) pass0) fun d ⟨j, e1, e2⟩ => ⟨j, e1, by rw [List.length_map]; exact e2⟩) (by rw [List.length_map]; omega) fun j x hx2 => ?_
    rw [List.getElem?_map] at hx2
    obtain ⟨y, hy, rfl⟩ := Option.map_eq_some_iff.mp hx2
    refine ⟨_, rfl, left.eraseIdx j, out ++ [y], ?_, by rw [List.map_append]; rfl, ?_, by rw [List.length_append, hl]; rfl⟩
    · show [Ow.tape, Ow.lst _] = [Ow.tape, Ow.lst _]
      rw [erase_map]
    · rw [List.append_assoc]
      exact ((perm_erase hy).append_left out).trans hp
  · obtain ⟨left, out, rfl, rfl, hp, hl⟩ := hP
    rw [List.length_range] at hl
    have hll : out.length + left.length = l.length := by
      have := hp.length_eq
      rw [List.length_append] at this
      exact this
    have : left = [] := List.length_eq_zero_iff.mp (by omega)
    subst this
    rw [List.append_nil] at hp
    exact ⟨_, _, rfl, fun l2 e => ⟨out, rfl, by rw [← lNs_inj (List.cons.inj e).1]; exact hp⟩, rfl⟩
theorem ok_l_lot {f : Addr} {fd : FuncData} (B : Bl mg) (C : C_mixed P W K mg base cl) (F : FnA K "_law_lot" "_law_lot" s_l_lot f fd) : FnOk P W K mg base CX0 3 f fd ["_law_tape_here", "_law_things", "_law_many"] (spT K cl preLot postLot) := by
  refine fn_tape F sc_l_lot (fun ds ⟨m, k, h, _⟩ => by rw [h]; rfl) fun cdv A outer s H E hr ds ⟨l, k, e, h1⟩ => ?_
  subst e
  have q1 : ∀ p1 p2 p3 p4 : Pos, WQ cl (Xd P W K mg base N_l_lot "_law_lot" (defScope s_l_lot) f cdv A outer s H E) [.o 0, .d (lNs l), .d (eN k)] [.tape] (.Call (.Name "_law_mixed" p1) [.Name "_law_tape_here" p2, .Name "_law_things" p3] [] p4) (fun x => ∃ ds, x = .lst ds ∧ ∃ m : List Nat, ds = m.map eN ∧ m.Perm l) := fun p1 p2 p3 p4 => wq_mono (wq_tape (i := 0) C hr (by omega) rfl rfl (one_q (F := fun x => x = lNs l) (wq_p (wp_v 1) rfl)) (fun ds ⟨x, e1, e2⟩ => ⟨⟨l, by rw [e1, e2], h1⟩, fun y hy => hy l (by rw [e1, e2])⟩) pass0) fun d ⟨m, e1, e2⟩ => ⟨_, e1, m, rfl, e2⟩
  refine wss_one (ws_retq (wq_tupleL B (H := fun ds => ∃ m : List Nat, ds = m.map eN ∧ ∀ y ∈ m, y ∈ l) (wq_mono (wq_sortedN B (H := fun m : List Nat => ∀ y ∈ m, y ∈ l) (wq_mono (wq_to (j := (k : Int)) (q1 _ _ _ _) (wp_v 2)) ?_)) ?_)) ?_)
  · rintro d ⟨ds, e1, m, e2, e3⟩
    exact ⟨m.take k, by rw [e1, e2, cut_to], fun y hy => e3.mem_iff.mp (List.mem_of_mem_take hy)⟩
  · rintro d ⟨a, b, e1, e2, e3⟩
    exact ⟨_, e1, b, rfl, fun y hy => e2 y (e3.mem_iff.mp hy)⟩
  · rintro d ⟨ds, e1, m, e2, e3⟩
    refine ⟨d, [], rfl, fun l2 k2 e => ⟨m, by rw [e1, e2], ?_⟩, rfl⟩
    have : l = l2 := lNs_inj (List.cons.inj e).1
    rw [← this]
    exact e3
theorem ok_l_goes_home {f : Addr} {fd : FuncData} (B : Bl mg) (F : FnA K "_law_goes_home" "_law_goes_home" s_l_goes_home f fd) (h : List Nat) : FnOk P W K mg base CX0 1 f fd ["_law_hung"] (PX K cl [eNs h] ((∀ x ∈ h, x ≤ h.length) ∧ h.length ≤ 100) (.bl (goesHome h))) := by
  refine fn_px F sc_l_goes_home rfl fun ⟨hh, hz⟩ cdv A outer s H E hr => ?_
  refine wss_cons (ws_for PassesOwn.never rfl (wi_blocks B (wp_k 1) (wp_addN (wp_lenTm B (wp_v 0)) (wp_k 1)) (by omega)) (fun i r1 w1 => ∃ x1 x2 x3, goesHome h = ((blocksOf h.length).drop i).all (fun b => iter (upOf h) h.length b == 0) ∧ r1 = [.d (eNs h), x1, x2, x3] ∧ w1 = []) ⟨_, _, _, rfl, rfl, rfl⟩ (fun i x r1 w1 e hP => ?_) fun r1 w1 hP => ?_)
  · obtain ⟨x1, x2, x3, hg, rfl, rfl⟩ := hP
    obtain ⟨b, hb0, rfl⟩ : ∃ b, (blocksOf h.length)[i]? = some b ∧ eN b = x := by
      rw [List.getElem?_map] at e
      exact Option.map_eq_some_iff.mp e
    have hb := mem_blocks.mp (List.mem_of_getElem? hb0)
    have hi := (List.getElem?_eq_some_iff.mp hb0).1
    have hd : (blocksOf h.length).drop i = b :: (blocksOf h.length).drop (i + 1) := by
      rw [List.drop_eq_getElem_cons hi]
      congr 1
      exact (List.getElem?_eq_some_iff.mp hb0).2
    rw [hd, List.all_cons] at hg
    refine ⟨_, _, wg_n 1 sc_l_goes_home.nd, ?_⟩
    refine wss_cons (ws_setp 2 sc_l_goes_home.nd (wp_v 1) ?_)
    refine wss_cons (ws_for PassesOwn.never rfl (wi_T (wp_v 0)) (fun i2 r2 w2 => ∃ y x3, y ≤ h.length ∧ iter (upOf h) h.length b = iter (upOf h) (h.length - i2) y ∧ r2 = [.d (eNs h), .d (eN b), .d (eN y), x3] ∧ w2 = []) ⟨b, _, hb.2, rfl, rfl, rfl⟩ (fun i2 y r2 w2 e2 hP2 => ?_) fun r2 w2 hP2 => ?_)
    · obtain ⟨z, x4, hz2, he, rfl, rfl⟩ := hP2
      have hi2 : i2 < h.length := by
        have := (List.getElem?_eq_some_iff.mp e2).1
        simpa using this
      obtain ⟨j, hj⟩ : ∃ j, h.length - i2 = j + 1 := ⟨h.length - i2 - 1, by omega⟩
      rw [hj] at he
      refine ⟨_, _, wg_n 3 sc_l_goes_home.nd, wss_one (ws_setp 2 sc_l_goes_home.nd (wp_if (d := eN (upOf h z)) (wt_gtN (wp_v 2) (wp_k 0)) (fun h0 => wp_is (wp_hang (wp_v 0) (wp_v 2) (of_decide_eq_true h0) hz2) ?_) (fun h0 => wp_is (wp_k 0) ?_)) ⟨_, .refl _, upOf h z, .d y, ?_, ?_, rfl, rfl⟩)⟩
      · unfold upOf
        rw [if_pos (show z > 0 from of_decide_eq_true h0)]
      · unfold upOf
        rw [if_neg (show ¬ z > 0 from of_decide_eq_false h0)]
      · unfold upOf
        split
        · exact hang_le hh z
        · omega
      · rw [he, show h.length - (i2 + 1) = j by omega]
        rfl
    · obtain ⟨z, x4, hz2, he, rfl, rfl⟩ := hP2
      rw [List.length_map, Nat.sub_self] at he
      have he : iter (upOf h) h.length b = z := he
      refine wss_one (ws_if (wt_neN (wp_v 2) (wp_k 0)) (fun h0 => wss_one (ws_ret wp_bl ?_)) fun h0 => wss_nil ⟨_, .refl _, _, _, _, ?_, rfl, rfl⟩)
      · show Sl.d (D.bl _) = Sl.d (D.bl _)
        have : ¬ z = 0 := by simpa using h0
        rw [hg, he]
        simp [this]
      · have : z = 0 := by simpa using h0
        rw [hg, he, this]
        rfl
  · obtain ⟨x1, x2, x3, hg, rfl, rfl⟩ := hP
    rw [List.length_map, List.drop_length] at hg
    refine wss_one (ws_ret wp_bl ?_)
    rw [hg]
    rfl
theorem longer_len {n b : Nat} (hb : b ≤ n) : ∀ rows : List (List Nat), (longer n b rows).length ≤ rows.length * n
  | [] => by simp [longer]
  | r :: rows => by
    have ih := longer_len hb rows
    have h2 : ((List.range (n + 1)).filter fun p => !(p == b)).length = n := by
      have h3 := (List.nodup_range (n := n + 1)).erase_eq_filter b
      have h4 : (List.range (n + 1)).filter (fun p => !(p == b)) = (List.range (n + 1)).erase b := h3.symm
      rw [h4, List.length_erase_of_mem (List.mem_range.mpr (by omega)), List.length_range]
      rfl
    unfold longer at ih ⊢
    rw [List.flatMap_cons, List.length_append, List.length_map, h2, List.length_cons, Nat.succ_mul]
    omega
theorem rows_small {n : Nat} (hn : n ≤ 4) : ∀ b, b ≤ n → (rowsTo n b).length ≤ 4 ^ b
  | 0, _ => by simp [rowsTo]
  | b + 1, hb => by
    have ih := rows_small hn b (by omega)
    have h2 := longer_len (n := n) (b := b + 1) hb (rowsTo n b)
    unfold rowsTo
    rw [Nat.pow_succ]
    exact Nat.le_trans h2 (Nat.mul_le_mul ih hn)
theorem rows_mem {n : Nat} : ∀ {b : Nat} {r : List Nat}, r ∈ rowsTo n b → r.length = b ∧ ∀ x ∈ r, x ≤ n
  | 0, r, h => by
    have : r = [] := by simpa [rowsTo] using h
    subst this
    exact ⟨rfl, fun x hx => absurd hx List.not_mem_nil⟩
  | b + 1, r, h => by
    unfold rowsTo longer at h
    obtain ⟨r', hr', h2⟩ := List.mem_flatMap.mp h
    obtain ⟨p, hp, rfl⟩ := List.mem_map.mp h2
    obtain ⟨g1, g2⟩ := rows_mem hr'
    refine ⟨by rw [List.length_append, g1]; rfl, fun x hx => ?_⟩
    rcases List.mem_append.mp hx with hx | hx
    · exact g2 x hx
    · have : x = p := by simpa using hx
      rw [this]
      have := List.mem_range.mp (List.mem_filter.mp hp).1
      omega
theorem longer_take (n b : Nat) (rows : List (List Nat)) (i : Nat) (r : List Nat) (e : rows[i]? = some r) : longer n b (rows.take (i + 1)) = longer n b (rows.take i) ++ ((List.range (n + 1)).filter fun p => !(p == b)).map fun p => r ++ [p] := by
  rw [List.take_add_one, e]
  unfold longer
  rw [List.flatMap_append]
  simp
theorem ok_l_trees {f : Addr} {fd : FuncData} (B : Bl mg) (C : C_goes_home P W K mg base cl) (F : FnA K "_law_trees" "_law_trees" s_l_trees f fd) (n : Nat) : FnOk P W K mg base CX0 2 f fd ["_law_blocks"] (PX K cl [eN n] (n ≤ 4) (.lst ((lTrees n).map eNs))) := by
  refine fn_px F sc_l_trees rfl fun hn cdv A outer s H E hr => ?_
  refine wss_cons (ws_setp 1 sc_l_trees.nd (d := .lst ((rowsTo n 0).map eNs)) (wp_lst (ds := [.tup []]) (wa_cons (wp_tup wa_nil (by decide)) wa_nil) (by show 1 ≤ 100000; decide)) ?_)
  refine wss_cons (ws_for PassesOwn.never rfl (wi_blocks B (wp_k 1) (wp_addN (wp_v 0) (wp_k 1)) (by omega)) (fun i r1 w1 => r1 = [.d (eN n), .d (.lst ((rowsTo n i).map eNs)), .u, .u, .u, .u] ∧ w1 = List.replicate i .gone) ⟨rfl, rfl⟩ (fun i x r1 w1 e hP => ?_) fun r1 w1 hP => ?_)
  · obtain ⟨rfl, rfl⟩ := hP
    obtain ⟨b, hb0, rfl⟩ : ∃ b, (blocksOf n)[i]? = some b ∧ eN b = x := by
      rw [List.getElem?_map] at e
      exact Option.map_eq_some_iff.mp e
    have hb := mem_blocks.mp (List.mem_of_getElem? hb0)
    have hbi : b = i + 1 := by
      unfold blocksOf at hb0
      rw [List.getElem?_map] at hb0
      obtain ⟨q, h1, h2⟩ := Option.map_eq_some_iff.mp hb0
      have := (List.getElem?_eq_some_iff.mp h1).2
      simp at this
      omega
    have hsm := rows_small hn i (by omega)
    have hsm2 := rows_small hn (i + 1) (by omega)
    have p1 : 4 ^ i ≤ 4 ^ 4 := Nat.pow_le_pow_right (by decide) (by omega)
    have p2 : 4 ^ (i + 1) ≤ 4 ^ 4 := Nat.pow_le_pow_right (by decide) (by omega)
    have hlen : (List.replicate i Ow.gone).length = i := List.length_replicate
    refine ⟨_, _, wg_n 2 sc_l_trees.nd, ?_⟩
    refine wss_cons (ws_newL 3 sc_l_trees.nd wa_nil (by decide) ?_)
    rw [hlen]
    refine wss_cons (ws_for PassesOwn.never rfl (wi_L (wp_v 1)) (fun i2 r2 w2 => ∃ x4, r2 = [.d (eN n), .d (.lst ((rowsTo n i).map eNs)), .d (eN b), .o i, x4, .u] ∧ w2 = List.replicate i .gone ++ [.lst ((longer n b ((rowsTo n i).take i2)).map eNs)]) ⟨_, rfl, rfl⟩ (fun i2 y r2 w2 e2 hP2 => ?_) fun r2 w2 hP2 => ?_)
    · obtain ⟨x4, rfl, rfl⟩ := hP2
      obtain ⟨row, hrow, rfl⟩ : ∃ q, (rowsTo n i)[i2]? = some q ∧ eNs q = y := by
        rw [List.getElem?_map] at e2
        exact Option.map_eq_some_iff.mp e2
      have hrl := (rows_mem (List.mem_of_getElem? hrow)).1
      have gw : (List.replicate i Ow.gone ++ [Ow.lst ((longer n b ((rowsTo n i).take i2)).map eNs)])[i]? = some (.lst ((longer n b ((rowsTo n i).take i2)).map eNs)) := by
        rw [List.getElem?_append_right (by rw [hlen]; exact Nat.le_refl _), hlen, Nat.sub_self]
        rfl
      have l1 : (longer n b ((rowsTo n i).take i2)).length ≤ 256 * 4 := by
        refine Nat.le_trans (longer_len hb.2 _) (Nat.mul_le_mul ?_ hn)
        rw [List.length_take]
        omega
      refine ⟨_, _, wg_n 4 sc_l_trees.nd, wss_one (ws_extendL 3 rfl gw (wp_lc (xs := List.range (n + 1)) (enc := eN) (f := fun p => !decide (p = b)) (g := fun p => eNs (row ++ [p])) (ra := fun p => [.d (eN n), .d (.lst ((rowsTo n i).map eNs)), .d (eN b), .o i, .d (eNs row), .d (eN p)]) [("_law_place", 5)] rfl sc_l_trees.nd (blk : BlkOk N_l_trees (defScope s_l_trees) _ _) (by rw [List.length_range]; omega) (wi_range B (wp_addN (wp_v 0) (wp_k 1)) (by omega)) (fun i hi => hi) (fun p hp _ _ _ _ _ => wg_n 5 sc_l_trees.nd) (fun p hp _ _ _ _ _ => wts_one (wt_neN (wp_v 5) (wp_v 2))) (fun p hp _ _ _ _ _ _ => wp_is (wp_catT (wp_v 4) (wp_tup (ds := [eN p]) (wa_cons (wp_v 5) wa_nil) (by show 1 ≤ 100000; decide)) ?_) ?_)) ?_ ⟨_, .refl _, .d (eNs row), rfl, ?_⟩)⟩
      · rw [List.length_map, hrl]
        show i + 1 ≤ 100000
        omega
      · show D.tup _ = D.tup _
        rw [List.map_append]
        rfl
      · have := List.length_filter_le (fun p => !decide (p = b)) (List.range (n + 1))
        rw [List.length_range] at this
        rw [List.length_map, List.length_map]
        omega
      · rw [List.set_append_right _ _ (by rw [hlen]; exact Nat.le_refl _), hlen, Nat.sub_self, longer_take n b _ _ row hrow, List.map_append, List.map_map]
        rfl
    · obtain ⟨x4, rfl, rfl⟩ := hP2
      rw [List.length_map, List.take_length]
      have gw : (List.replicate i Ow.gone ++ [Ow.lst ((longer n b (rowsTo n i)).map eNs)])[i]? = some (.lst ((longer n b (rowsTo n i)).map eNs)) := by
        rw [List.getElem?_append_right (by rw [hlen]; exact Nat.le_refl _), hlen, Nat.sub_self]
        rfl
      refine wss_sub (r' := [.d (eN n), .d (.lst ((rowsTo n i).map eNs)), .d (eN b), .o i, .u, .u]) (.same (.same (.same (.same (.u (.same .nil)))))) ?_
      refine wss_share 3 i rfl gw rfl (Nat.zero_le _) (no_o (by simp)) ?_
      refine wss_one (ws_setp 1 sc_l_trees.nd (wp_v 3) ⟨[.d (eN n), .d (.lst ((rowsTo n (i + 1)).map eNs)), .u, .u, .u, .u], ?_, rfl, ?_⟩)
      · rw [hbi]
        exact .same (.same (.u (.u (.u (.u .nil)))))
      · rw [List.set_append_right _ _ (by rw [hlen]; exact Nat.le_refl _), hlen, Nat.sub_self, List.replicate_succ']
        rfl
  · obtain ⟨rfl, rfl⟩ := hP
    rw [List.length_map, blocks_len]
    have hsm := rows_small hn n (Nat.le_refl _)
    have p1 : 4 ^ n ≤ 4 ^ 4 := Nat.pow_le_pow_right (by decide) hn
    refine wss_one (ws_ret (wp_lc (xs := rowsTo n n) (enc := eNs) (f := goesHome) (g := eNs) (ra := fun r => [.d (eN n), .d (.lst ((rowsTo n n).map eNs)), .u, .u, .d (eNs r), .u]) [("_law_row", 4)] rfl sc_l_trees.nd (blk : BlkOk N_l_trees (defScope s_l_trees) _ _) (by omega) (wi_L (wp_v 1)) (fun i hi => hi) (fun p hp _ _ _ _ _ => wg_n 4 sc_l_trees.nd) (fun r hm _ _ _ _ _ => wts_one (wt_val (wp_px (C r) hr (by omega) (wa_cons (wp_v 4) wa_nil) ?_ pass0))) (fun p hp _ _ _ _ _ _ => wp_v 4)) rfl)
    obtain ⟨g1, g2⟩ := rows_mem hm
    exact ⟨fun x hx => by rw [g1]; exact g2 x hx, by omega⟩
end
end FV
set_option Elab.async false
set_option linter.all false
set_option maxRecDepth 100000
set_option maxHeartbeats 4000000
/-! The law's own defs, third part: tellings. -/
namespace FV
open PySem PySem.Spec PyProof.Rows L2
/-- a small tree's tuple -/
structure Sm (h : List Nat) : Prop where
  all : ∀ x ∈ h, x ≤ h.length
  len : h.length ≤ 4
abbrev TelI := List Nat × (Nat × Nat) × Nat
abbrev telA (i : TelI) : List D := [eNs i.1, eP i.2.1, eN i.2.2]
def telC (i : TelI) : Prop := Sm i.1 ∧ i.2.2 ≤ i.1.length ∧ i.2.1.1 ≤ 4 ∧ i.2.1.2 ≤ 4
abbrev telV (i : TelI) : D := eT (lTel i.1 i.2.1 i.2.2)
theorem step_len (h : List Nat) (l : List Nat) : (lStep h l).length ≤ h.length := by
  unfold lStep
  have := List.length_filter_le (fun b => l.contains (hangAt h b)) (blocksOf h.length)
  rw [blocks_len] at this
  rw [List.length_map]
  exact this
theorem lties_len (h : List Nat) : ∀ (k : Nat) (l : List Nat), (lTies h k l).length ≤ k * h.length
  | 0, l => by simp [lTies]
  | k + 1, l => by
    have h1 := step_len h l
    have h2 := lties_len h k ((lStep h l).map (·.1))
    unfold lTies
    rw [List.length_append, Nat.succ_mul]
    omega
def toldOf (h : List Nat) (v : Nat × Nat) (lost : List Nat) : List (Nat × Tel) := ((List.range (h.length + 1)).filter fun p => !lost.contains p).map fun p => (p, lTel h v p)
section
variable {P : Program} {W : World} {K : PySem.W.Frag} {mg : Str → Option Value} {base : Heap} {cl : Nat → Addr}
section
variable (P : Program) (W : World) (K : PySem.W.Frag) (mg : Str → Option Value) (base : Heap) (cl : Nat → Addr)
abbrev C_telling : Prop := CX1 P W K mg base 1 "_law_telling" ["_law_hung", "_law_view", "_law_place"] (spJ K cl telA telC telV)
end
theorem ok_l_telling {f : Addr} {fd : FuncData} (B : Bl mg) (F : FnA K "_law_telling" "_law_telling" s_l_telling f fd) (i : TelI) : FnOk P W K mg base CX0 1 f fd ["_law_hung", "_law_view", "_law_place"] (PX K cl (telA i) (telC i) (telV i)) := by
  obtain ⟨h, v, p⟩ := i
  refine fn_px F sc_l_telling rfl fun ⟨S, hp, hv1, hv2⟩ cdv A outer s H E hr => ?_
  have S : Sm h := S
  have hz : h.length ≤ 4 := S.len
  have hp : p ≤ h.length := hp
  have hv1 : v.1 ≤ 4 := hv1
  have hv2 : v.2 ≤ 4 := hv2
  refine wss_cons (ws_par 3 4 rfl sc_l_telling.nd (by decide) (wa_cons (wp_tup wa_nil (by decide)) (wa_cons (wp_v 2) wa_nil)) ?_)
  refine wss_cons (ws_for PassesOwn.never rfl (wi_range B (wp_ixT (wp_v 1) (wp_k 0) (z := eN v.1) rfl) (by omega)) (fun i r1 w1 => ∃ row x s5, x ≤ h.length ∧ lRow h v.1 p = row ++ lRow h (v.1 - i) x ∧ row.length ≤ i ∧ r1 = [.d (eNs h), .d (eP v), .d (eN p), .d (eNs row), .d (eN x), s5, .u, .u, .u, .u] ∧ w1 = []) ⟨[], p, _, hp, rfl, Nat.le_refl _, rfl, rfl⟩ (fun i x r1 w1 e hP => ?_) fun r1 w1 hP => ?_)
  · obtain ⟨row, y, s5, hy, hrow, hrl, rfl, rfl⟩ := hP
    have hi : i < v.1 := by
      have := (List.getElem?_eq_some_iff.mp e).1
      simpa using this
    obtain ⟨j, hj⟩ : ∃ j, v.1 - i = j + 1 := ⟨v.1 - i - 1, by omega⟩
    rw [hj] at hrow
    have hj2 : v.1 - (i + 1) = j := by omega
    have hrow : lRow h v.1 p = row ++ (if y = 0 then lRow h j y else hangAt h y :: lRow h j (hangAt h y)) := hrow
    refine ⟨_, _, wg_n 5 sc_l_telling.nd, wss_one (ws_if (wt_neN (wp_v 4) (wp_k 0)) (fun h0 => ?_) fun h0 => wss_nil ⟨_, .refl _, row, y, .d x, hy, ?_, by omega, rfl, rfl⟩)⟩
    · have hy0 : ¬ y = 0 := by simpa using h0
      rw [if_neg hy0] at hrow
      refine wss_cons (ws_setp 4 sc_l_telling.nd (wp_hang (wp_v 0) (wp_v 4) (by omega) hy) ?_)
      refine wss_one (ws_setp 3 sc_l_telling.nd (wp_catT (wp_v 3) (wp_tup (ds := [eN (hangAt h y)]) (wa_cons (wp_v 4) wa_nil) (by show 1 ≤ 100000; decide)) ?_) ⟨_, .refl _, row ++ [hangAt h y], hangAt h y, .d x, hang_le S.all y, ?_, ?_, ?_, rfl⟩)
      · rw [List.length_map]
        show row.length + 1 ≤ 100000
        omega
      · rw [hj2, List.append_assoc]
        exact hrow
      · rw [List.length_append, List.length_singleton]
        omega
      · have e5 : eNs (row ++ [hangAt h y]) = D.tup (row.map eN ++ [eN (hangAt h y)]) := by
          show D.tup _ = D.tup _
          rw [List.map_append]
          rfl
        rw [e5]
        rfl
    · have hy0 : y = 0 := by simpa using h0
      rw [if_pos hy0] at hrow
      rw [hj2]
      exact hrow
  · obtain ⟨row, y, s5, hy, hrow, hrl, rfl, rfl⟩ := hP
    rw [List.length_map, List.length_range, Nat.sub_self] at hrow
    have hrow : lRow h v.1 p = row ++ [] := hrow
    rw [List.append_nil] at hrow
    refine wss_cons (ws_asg (wp_tup (wa_cons (wp_lst wa_nil (by decide)) (wa_cons (wp_lst (wa_cons (wp_v 2) wa_nil) (by show 1 ≤ 100000; decide)) wa_nil)) (by show 2 ≤ 100000; decide)) (wg_two rfl (wg_n 6 sc_l_telling.nd) (wg_n 7 sc_l_telling.nd)) ?_)
    have tot := lties_len h v.2 [p]
    have tot2 : v.2 * h.length ≤ 4 * 4 := Nat.mul_le_mul hv2 hz
    refine wss_cons (ws_for PassesOwn.never rfl (wi_range B (wp_ixT (wp_v 1) (wp_k 1) (z := eN v.2) rfl) (by omega)) (fun i r1 w1 => ∃ ties layer x4 x5 x8, lTies h v.2 [p] = ties ++ lTies h (v.2 - i) layer ∧ r1 = [.d (eNs h), .d (eP v), .d (eN p), .d (eNs row), x4, x5, .d (.lst (ties.map eP)), .d (lNs layer), x8, .u] ∧ w1 = []) ⟨[], [p], _, _, _, rfl, rfl, rfl⟩ (fun i x r1 w1 e hP => ?_) fun r1 w1 hP => ?_)
    · obtain ⟨ties, layer, x4, x5, x8, ht, rfl, rfl⟩ := hP
      have hi : i < v.2 := by
        have := (List.getElem?_eq_some_iff.mp e).1
        simpa using this
      obtain ⟨j, hj⟩ : ∃ j, v.2 - i = j + 1 := ⟨v.2 - i - 1, by omega⟩
      rw [hj] at ht
      have hj2 : v.2 - (i + 1) = j := by omega
      have ht2 : lTies h v.2 [p] = ties ++ (lStep h layer ++ lTies h j ((lStep h layer).map (·.1))) := ht
      have hlen : ties.length + (lStep h layer).length ≤ 16 := by
        have := congrArg List.length ht2
        rw [List.length_append, List.length_append] at this
        omega
      refine ⟨_, _, wg_n 5 sc_l_telling.nd, ?_⟩
      refine wss_cons (ws_setLcf 8 (xs := blocksOf h.length) (enc := eN) (f := fun b => layer.contains (hangAt h b)) (g := fun b => eP (b, hangAt h b)) (ra := fun b => [.d (eNs h), .d (eP v), .d (eN p), .d (eNs row), x4, .d x, .d (.lst (ties.map eP)), .d (lNs layer), x8, .d (eN b)]) [("_law_block", 9)] rfl sc_l_telling.nd (blk : BlkOk N_l_telling (defScope s_l_telling) _ _) (by rw [blocks_len]; omega) (wi_blocks B (wp_k 1) (wp_addN (wp_lenTm B (wp_v 0)) (wp_k 1)) (by omega)) (fun i hi => hi) (fun b hb _ _ _ _ _ => wg_n 9 sc_l_telling.nd) (fun b hb _ _ _ _ _ => wt_inLN (wp_hang (wp_v 0) (wp_v 9) (mem_blocks.mp hb).1 (mem_blocks.mp hb).2) (wp_v 7)) (fun b hb _ _ _ _ _ _ => wp_tup (wa_cons (wp_v 9) (wa_cons (wp_hang (wp_v 0) (wp_v 9) (mem_blocks.mp hb).1 (mem_blocks.mp hb).2) wa_nil)) (by show 2 ≤ 100000; decide)) ?_)
      have hst : D.lst (((blocksOf h.length).filter fun b => layer.contains (hangAt h b)).map fun b => eP (b, hangAt h b)) = .lst ((lStep h layer).map eP) := by
        show D.lst _ = D.lst _
        unfold lStep
        rw [List.map_map]
        rfl
      rw [hst]
      refine wss_cons (ws_setp 6 sc_l_telling.nd (wp_catL (wp_v 6) (wp_v 8) (by rw [List.length_map, List.length_map]; omega)) ?_)
      refine wss_one (ws_setp 7 sc_l_telling.nd (wp_lcm (xs := lStep h layer) (enc := eP) (g := fun q => eN q.1) (ra := fun q => [.d (eNs h), .d (eP v), .d (eN p), .d (eNs row), .d (eN q.2), .d x, .d (.lst (ties.map eP ++ (lStep h layer).map eP)), .d (lNs layer), .d (.lst ((lStep h layer).map eP)), .d (eN q.1)]) [("_law_block", 9), ("_law_here", 4)] rfl sc_l_telling.nd (blk : BlkOk N_l_telling (defScope s_l_telling) _ _) (by omega) (wi_L (wp_v 8)) (fun i hi => hi) (fun q hq _ _ _ _ _ => wg_two rfl (wg_n 9 sc_l_telling.nd) (wg_n 4 sc_l_telling.nd)) (fun q hq _ _ _ _ _ => wp_v 9)) ⟨_, .refl _, ties ++ lStep h layer, (lStep h layer).map (·.1), x4, .d x, .d (.lst ((lStep h layer).map eP)), ?_, ?_, rfl⟩)
      · rw [hj2, List.append_assoc]
        exact ht2
      · have e6 : lNs ((lStep h layer).map (·.1)) = .lst ((lStep h layer).map fun q => eN q.1) := by
          show D.lst _ = D.lst _
          rw [List.map_map]
          rfl
        rw [List.map_append, e6]
        rfl
    · obtain ⟨ties, layer, x4, x5, x8, ht, rfl, rfl⟩ := hP
      rw [List.length_map, List.length_range, Nat.sub_self] at ht
      have ht : lTies h v.2 [p] = ties ++ [] := ht
      rw [List.append_nil] at ht
      refine wss_one (ws_ret (wp_tup (ds := [eNs row, .tup ((sortP ties).map eP)]) (wa_cons (wp_v 3) (wa_cons (wp_tupleL B (wp_sortP B hr (wp_v 6))) wa_nil)) (by show 2 ≤ 100000; decide)) ?_)
      rw [← ht, ← hrow]
      rfl

def preTold (ds : List D) : Prop := ∃ (h : List Nat) (v : Nat × Nat) (lost : List Nat), ds = [eNs h, eP v, eNs lost] ∧ Sm h ∧ v.1 ≤ 4 ∧ v.2 ≤ 4
def postTold (ds : List D) (u : Ow) : Prop := ∃ (h : List Nat) (v : Nat × Nat) (lost : List Nat), ds = [eNs h, eP v, eNs lost] ∧ u = .dic ((toldOf h v lost).map fun q => (q.1 : Int)) ((toldOf h v lost).map fun q => eT q.2)
theorem ok_l_told {f : Addr} {fd : FuncData} (B : Bl mg) (C : C_telling P W K mg base cl) (F : FnA K "_law_told" "_law_told" s_l_told f fd) : FnOk P W K mg base CX0 2 f fd ["_law_hung", "_law_view", "_law_lost"] (spO K cl preTold postTold) := by
  refine fn_own F sc_l_told (fun ds ⟨h, v, l, e, _⟩ => by rw [e]; rfl) fun cdv A outer s H E hr ds ⟨h, v, lost, e, S, hv1, hv2⟩ => ?_
  subst e
  have hz := S.len
  refine wss_cons (ws_newD 3 sc_l_told.nd ?_)
  refine wss_cons (ws_for PassesOwn.never rfl (wi_range B (wp_addN (wp_lenTm B (wp_v 0)) (wp_k 1)) (by omega)) (fun i r1 w1 => ∃ x4, r1 = [.d (eNs h), .d (eP v), .d (eNs lost), .o 0, x4] ∧ w1 = [.dic ((((List.range (h.length + 1)).take i).filter fun p => !lost.contains p).map fun p : Nat => (p : Int)) ((((List.range (h.length + 1)).take i).filter fun p => !lost.contains p).map fun p => eT (lTel h v p))]) ⟨_, rfl, rfl⟩ (fun i x r1 w1 e hP => ?_) fun r1 w1 hP => ?_)
  · obtain ⟨x4, rfl, rfl⟩ := hP
    obtain ⟨q, hq, rfl⟩ : ∃ q, (List.range (h.length + 1))[i]? = some q ∧ eN q = x := by
      rw [List.getElem?_map] at e
      exact Option.map_eq_some_iff.mp e
    have hi : i < h.length + 1 := by
      have := (List.getElem?_eq_some_iff.mp hq).1
      simpa using this
    have hqi : q = i := by
      have := (List.getElem?_eq_some_iff.mp hq).2
      simpa using this.symm
    subst hqi
    refine ⟨_, _, wg_n 4 sc_l_told.nd, wss_one (ws_if (wt_niTN (wp_v 4) (wp_v 2)) (fun h0 => ?_) fun h0 => wss_nil ⟨_, .refl _, _, rfl, ?_⟩)⟩
    · have hw0 : ∀ M : List Nat, [Ow.dic (M.map fun p : Nat => (p : Int)) (M.map fun p => eT (lTel h v p))][0]? = some (Ow.dic ((M.map fun p : Nat => ((p : Int), eT (lTel h v p))).map (·.1)) ((M.map fun p : Nat => ((p : Int), eT (lTel h v p))).map (·.2))) := fun M => by
        rw [List.map_map, List.map_map]
        rfl
      have hsz : (((List.range (h.length + 1)).take q).filter fun p => !lost.contains p).length ≤ 5 := by
        have := List.length_filter_le (fun p => !lost.contains p) ((List.range (h.length + 1)).take q)
        rw [List.length_take, List.length_range] at this
        omega
      refine wss_one (ws_dput 3 hr rfl (hw0 _) (wp_px (cal_one C (h, v, q)) hr (by omega) (wa_cons (wp_v 0) (wa_cons (wp_v 1) (wa_cons (wp_v 4) wa_nil))) ⟨S, by show q ≤ h.length; omega, hv1, hv2⟩ pass0) (wp_v 4) (by rw [List.length_map]; omega) ⟨_, .refl _, _, rfl, ?_⟩)
      show [Ow.dic _ _] = [Ow.dic _ _]
      rw [aput_new, filter_take hq, if_pos h0, List.map_append, List.map_append, List.map_append, List.map_append, List.map_map, List.map_map]
      · rfl
      · rw [List.map_map]
        intro hm
        obtain ⟨y, hy, e2⟩ := List.mem_map.mp hm
        have e2 : (y : Int) = (q : Int) := e2
        have hy2 := (List.mem_filter.mp hy).1
        have : y < q := by
          rw [List.take_range, List.mem_range] at hy2
          omega
        omega
    · rw [filter_take hq, if_neg (by rw [h0]; exact Bool.false_ne_true), List.append_nil]
  · obtain ⟨x4, rfl, rfl⟩ := hP
    rw [List.length_map, List.take_length]
    refine wss_one (ws_retOwn 3 rfl ⟨rfl, _, rfl, h, v, lost, rfl, ?_⟩)
    unfold toldOf
    rw [List.map_map, List.map_map]
    rfl
def preTape (ds : List D) : Prop := ∃ ns : List Int, ds = [.lst (ns.map .int)]
theorem ok_l_tape {f : Addr} {fd : FuncData} (B : Bl mg) (F : FnA K "_law_tape" "_law_tape" s_l_tape f fd) : FnOk P W K mg base CX0 1 f fd ["_law_script"] (spO K cl preTape fun _ u => u = .tape) := by
  refine fn_own F sc_l_tape (fun ds ⟨ns, e⟩ => by rw [e]; rfl) fun cdv A outer s H E hr ds ⟨ns, e⟩ => ?_
  subst e
  refine wss_tapeClose 0 (wss_one (ws_retNewL (ds := tpD ns 0 0 1 0) (wa_cons (wp_listL B (wp_v 0)) (wa_cons (wp_k 0) (wa_cons (wp_k 0) (wa_cons (wp_k 1) (wa_cons (wp_k 0) wa_nil))))) (by show 5 ≤ 100000; decide) ⟨ns, 0, 0, 1, 0, rfl, Int.le_refl _, Int.le_refl _, rfl, _, rfl, rfl⟩))
section
variable (P : Program) (W : World) (K : PySem.W.Frag) (mg : Str → Option Value) (base : Heap) (cl : Nat → Addr)
abbrev C_told : Prop := CX1 P W K mg base 2 "_law_told" ["_law_hung", "_law_view", "_law_lost"] (spO K cl preTold postTold)
abbrev C_tape : Prop := CX1 P W K mg base 1 "_law_tape" ["_law_script"] (spO K cl preTape fun _ u => u = .tape)
end
end
end FV
set_option Elab.async false
set_option linter.all false
set_option maxRecDepth 100000
set_option maxHeartbeats 2000000
/-! The data layer, part R: min of rows; drawn lists set to names; lists over a dict's keys. -/
namespace FV
open PySem PySem.Spec PyProof.Rows L2
theorem cr_minRow {X : Cx} (hc : X.calm = true) (hu : X.A.units + 64 < cLine) : CallR X (.builtin "min") (fun vs H Q => ∃ (a : Addr) (us : List V) (x : PyData) (xs : List PyData), vs = [.ref a] ∧ SqL X.K H a us ∧ DpAll X.K H us (x :: xs) ∧ PySem.W.AlikeAll (x :: xs) ∧ PyData.depthAll (x :: xs) ≤ 30 ∧ PyData.canLayAll0 (x :: xs) = true ∧
    ∀ (i : Nat) (v : V), us[i]? = some v → (x :: xs)[i]? = some (PySem.W.minD x xs) → Q v H) := by
  intro pins s σ H vs us Q I r h
  obtain ⟨a, ws, x, xs, rfl, hs, hd, hal, hdp, hlay, q⟩ := h
  obtain ⟨its, rv, hl, hz⟩ := I.list hs
  rw [Vals.ref1 r]
  obtain ⟨as, hr⟩ := Dp.readsAll I _ _ _ hd rv
  refine PySem.W.min_list_data (I.ok.hd hc) hl.isList (by simpa using hr) hal (by omega) fun i v h' tk bs hi hrd hk => ?_
  have hi2 : its[i]? = some v := by simpa using hi
  obtain ⟨w1, e1, e2⟩ : ∃ w1, ws[i]? = some w1 ∧ RelV w1 v := by
    have hlen := rv.length
    have hlt : i < ws.length := by
      rw [hlen]
      exact (List.getElem?_eq_some_iff.mp hi2).1
    obtain ⟨u, h1, h2⟩ := rv.get (List.getElem?_eq_getElem hlt)
    rw [hi2] at h1
    cases h1
    exact ⟨_, List.getElem?_eq_getElem hlt, h2⟩
  have I2 : Inv X pins σ H { s with heap := h', toks := tk } := I.kept hk
  obtain ⟨bs2, hr2, hlt, _⟩ := PySem.W.readsAll_at hr i v hi2
  have hr3 : Reads h' v ((x :: xs).getD i .none) bs2 := PySem.W.reads_keeps hk hr2
  have hget : (x :: xs)[i]? = some ((x :: xs).getD i .none) := by
    rw [List.getD_eq_getElem?_getD, List.getElem?_eq_getElem hlt]
    rfl
  have hcl : ∀ (l : List PyData) (i : Nat) (d : PyData), PyData.canLayAll0 l = true → l[i]? = some d → d.canLay0 = true := by
    intro l
    induction l with
    | nil => intro i d _ h; simp at h
    | cons y l ih =>
      intro i d h1 h2
      unfold PyData.canLayAll0 at h1
      rw [Bool.and_eq_true] at h1
      cases i with
      | zero =>
        have : y = d := by simpa using h2
        rw [← this]
        exact h1.1
      | succ i => exact ih i d h1.2 (by simpa using h2)
  have e3 := SeqAt.Reads.unique _ _ v _ _ (hcl _ _ _ hlay hget) hr3 hrd
  exact ⟨w1, H, I2, e2, q i w1 e1 (by rw [hget, e3])⟩
abbrev eRow (q : Nat × List Nat) : D := .tup [eN q.1, eNs q.2]
theorem lt_row (a b : Nat × List Nat) : (PySem.W.dataLt (pyD (eRow a)) (pyD (eRow b)) = true → a.1 ≤ b.1) ∧ (PySem.W.dataLt (pyD (eRow a)) (pyD (eRow b)) = false → b.1 ≤ a.1) := by
  have e : PySem.W.dataLt (pyD (eRow a)) (pyD (eRow b)) = if a.1 = b.1 then PyProof.Rows.lexLt PyProof.Rows.itemOrd (PySem.W.keyToksAll [pyD (eNs a.2)]) (PySem.W.keyToksAll [pyD (eNs b.2)]) else decide (a.1 < b.1) := by
    show PySem.W.dataLt (.tuple [pyD (eN a.1), pyD (eNs a.2)]) (.tuple [pyD (eN b.1), pyD (eNs b.2)]) = _
    rw [PySem.W.dataLt_tuple, PySem.W.dataLt_cons (by simp [pyD, PySem.W.alike])]
    by_cases h : a.1 = b.1
    · rw [if_pos ((eqv_N a.1 b.1).mpr h), if_pos h]
    · rw [if_neg (fun z => h ((eqv_N a.1 b.1).mp z)), if_neg h]
      show PySem.W.dataLt (.int (a.1 : Int)) (.int (b.1 : Int)) = _
      rw [PySem.W.dataLt_int]
      simp
  rw [e]
  by_cases h : a.1 = b.1
  · exact ⟨fun _ => by omega, fun _ => by omega⟩
  · rw [if_neg h]
    exact ⟨fun z => by have := of_decide_eq_true z; omega, fun z => by have := of_decide_eq_false z; omega⟩
theorem min_rows : ∀ (xs : List (Nat × List Nat)) (x : Nat × List Nat), ∃ y : Nat × List Nat, PySem.W.minD (pyD (eRow x)) (xs.map fun q => pyD (eRow q)) = pyD (eRow y) ∧ y.1 = (xs.map (·.1)).foldl min x.1
  | [], x => ⟨x, rfl, rfl⟩
  | z :: xs, x => by
    unfold PySem.W.minD
    rw [List.map_cons, List.foldl_cons, List.map_cons, List.foldl_cons]
    obtain ⟨h1, h2⟩ := lt_row z x
    cases hlt : PySem.W.dataLt (pyD (eRow z)) (pyD (eRow x)) with
    | true =>
      rw [if_pos rfl]
      obtain ⟨y, g1, g2⟩ := min_rows xs z
      refine ⟨y, g1, ?_⟩
      rw [g2, Nat.min_eq_right (h1 hlt)]
    | false =>
      rw [if_neg Bool.false_ne_true]
      obtain ⟨y, g1, g2⟩ := min_rows xs x
      refine ⟨y, g1, ?_⟩
      rw [g2, Nat.min_eq_left (h2 hlt)]
theorem sh_eRow {n : Nat} (q : Nat × List Nat) : Sh (n + 2) (eRow q) := sh_tup (by
  intro d hd
  simp only [List.mem_cons, List.not_mem_nil, or_false] at hd
  rcases hd with rfl | rfl
  · exact sh_int
  · exact sh_eNs _)
section
variable {cl : Nat → Addr} {X : Cx} {r : List Sl} {w : List Ow} {a b elt tg it : Expr} {ds : List D} {pos p : Pos} {n : Str} {k m : Nat} {F : Ph} {scope : Scope} {α : Type}
/-- min(rows)[0] -/
theorem wp_minRow {rows : List (Nat × List Nat)} {pc : Pos} {jj : Nat} {pk : Pos} (B : Bl X.mg) (hR : Room k X.A) (hc : X.calm = true) (ha : WP cl X r w a (.lst (rows.map eRow))) (hne : rows ≠ []) (hg : Gl X "min" := by rfl) (he : starEach [a] X.env = (false, eval a X.env) :: starEach [] X.env := by rfl) (hpl : (backTo pc (starEach [] X.env)).any (·.1) = false := by rfl) (hs : PlainIx (.Constant (.int (0 : Nat)) jj pk) := by exact fun _ _ => rfl) : WP cl X r w (.Subscript (.Call (.Name "min" p) [a] [] pc) (.Constant (.int ((0 : Nat) : Int)) jj pk) pos) (eN (minL (rows.map (·.1)))) := fun s σ I Q q => by
  refine ⟨_, pe_ix ix_tup (pe_callB (cr_minRow hc (room64 hR)) hg B.min (by decide +kernel) (pa_cons sE pa_nil he) (by decide) (by decide) he hpl) pe_int hs, ha s σ I _ fun v s1 st ok rv => ?_⟩
  cases rows with
  | nil => exact absurd rfl hne
  | cons x xs =>
    obtain ⟨a1, us, rfl, g1, g2⟩ := rv
    have epy : pyDs ((x :: xs).map eRow) = pyD (eRow x) :: xs.map fun q => pyD (eRow q) := by
      rw [pyDs_map, List.map_map]
      rfl
    have hpl2 : plainDs ((x :: xs).map eRow) = true := by
      rw [plainDs_all, List.all_eq_true]
      intro d hd
      exact (sh_map (fun q => sh_eRow (n := 0) q) _ d hd).p
    have hdp := Rs_dp (K := X.K) ok.lk hpl2 g2
    rw [epy] at hdp
    have hlay := lay_plains hpl2
    rw [epy] at hlay
    obtain ⟨y, m1, m2⟩ := min_rows xs x
    have hmemP : ∀ d ∈ pyD (eRow x) :: xs.map (fun q => pyD (eRow q)), ∃ q, d = pyD (eRow q) := fun d hd => by
      rcases List.mem_cons.mp hd with rfl | hd
      · exact ⟨x, rfl⟩
      · obtain ⟨q, _, rfl⟩ := List.mem_map.mp hd
        exact ⟨q, rfl⟩
    refine ⟨a1, us, _, _, rfl, ok.lk.sq g1, hdp, ⟨fun d1 h1 d2 h2 => ?_, fun d1 h1 => ?_⟩, depthAll_le fun d hd => ?_, hlay, fun i v hv hi => ?_⟩
    · obtain ⟨q1, rfl⟩ := hmemP d1 h1
      obtain ⟨q2, rfl⟩ := hmemP d2 h2
      show PySem.W.alike (.tuple [.int _, .tuple _]) (.tuple [.int _, .tuple _]) = true
      have := alike_ns q1.2 q2.2
      simp [PySem.W.alike, PySem.W.alikeAll, this]
    · obtain ⟨q1, rfl⟩ := hmemP d1 h1
      intro z
      cases z
    · obtain ⟨q1, rfl⟩ := hmemP d hd
      exact (sh_eRow (n := 28) q1).dp
    · rw [m1] at hi
      obtain ⟨dd, e1, e2⟩ := g2.back hv
      rw [List.getElem?_map] at e1
      obtain ⟨row, e3, rfl⟩ := Option.map_eq_some_iff.mp e1
      have e4 : (pyD (eRow x) :: xs.map fun q => pyD (eRow q))[i]? = some (pyD (eRow row)) := by
        have : (pyD (eRow x) :: xs.map fun q => pyD (eRow q)) = (x :: xs).map fun q => pyD (eRow q) := rfl
        rw [this, List.getElem?_map, e3]
        rfl
      rw [e4] at hi
      have e5 : pyD (eRow row) = pyD (eRow y) := Option.some.inj hi
      have e6 : row.1 = y.1 := by
        have : (.tuple [.int (row.1 : Int), pyD (eNs row.2)] : PyData) = .tuple [.int (y.1 : Int), pyD (eNs y.2)] := e5
        simp only [PyData.tuple.injEq, List.cons.injEq, PyData.int.injEq] at this
        omega
      obtain ⟨pp, ws, rfl, f1, f2⟩ := e2
      obtain ⟨t, f3, f4⟩ := f2.atI (i := ((0 : Nat) : Int)) (d := eN row.1) rfl
      refine ⟨pp, ws, _, t, rfl, rfl, ok.lk.st f1, f3, q t s1 st ok ?_⟩
      rw [e6, m2] at f4
      exact f4
/-- name = [e for tg in range(a)], all drawn -/
theorem ws_setLcR {G : Nat → Prop} {T : D → Prop} {N : Nat} {ra : Nat → List Sl} {is : List Nat} {pr pc p' pos2 : Pos} (i : Nat) (own : List (Str × Nat)) (B : Bl X.mg) (hc : X.calm = true) (hN : X.N.Nodup) (ok : BlkOk X.N X.env.scope scope own) (h : WQ cl X r w a fun x => ∃ j, x = eN j ∧ G j) (hG : ∀ j, G j → j ≤ N) (hz : N ≤ 100000) (his : ∀ i ∈ is, i ∈ own.map (·.2))
    (hg : ∀ j, InBlk X scope fun Y => WG cl Y (wipeR r (own.map (·.2))) w tg (eN j) is (ra j))
    (he : ∀ j, InBlk X scope fun Y => WQ cl Y (ra j) w elt T) (k : ∀ ys, ys.length ≤ N → (∀ y ∈ ys, T y) → F.nx (r.set i (.d (.lst ys))) w) (hy : X.N[i]? = some n := by rfl) (hyl : X.env.scope.names.lookup n = some .local := by rfl) (hsw : swapsWith (.ListComp elt [⟨tg, .Call (.Name "range" pr) [a] [] pc, [], 0⟩] scope pos2) (some (.Name n p')) pos.line X.env = pure true := by exact sw_true rfl rfl rfl rfl) (hgr : Gl X "range" := by rfl) (hst : starEach [a] X.env = [(false, eval a X.env)] := by rfl) (hs : ∀ x, foldedSetIterable (.Call (.Name "range" pr) [a] [] pc) X.env x = pure x := by intro _; rfl) :
    WS cl X m r w (.Assign [.Name n p'] (.ListComp elt [⟨tg, .Call (.Name "range" pr) [a] [] pc, [], 0⟩] scope pos2) pos) F := fun B0 s σ D hm st I C =>
  ⟨_, ps_setLc hc hN hy hyl hsw sI ok suG suTs suE hs, wiq_range B h (fun j hj => Nat.le_trans (hG j hj) hz) hgr hst s σ I _ fun J s1 M st1 ok1 hM itd A nA =>
    lc_body (f := fun _ => true) (ra := ra) (is := is) s σ I J s1 st1 ok1 itd A nA (fun i w1 acc => w1 = w ∧ acc.length ≤ i ∧ ∀ y ∈ acc, T y) (by rw [List.length_range]; exact Nat.le_trans (hG M hM) hz) his ⟨rfl, Nat.zero_le _, fun y hy => absurd hy List.not_mem_nil⟩ (fun i w1 acc ⟨h1, h2, h3⟩ => ⟨by rw [h1], h2⟩)
      (fun x _ i w1 acc ⟨h1, _⟩ => by rw [h1]; exact hg x) (fun x _ i w1 acc _ _ _ _ _ _ => wts_nil)
      (fun x _ i w1 acc _ ⟨h1, h2, h3⟩ _ b1 b2 b3 b4 b5 => by
        rw [h1]
        exact we_q (he x b1 b2 b3 b4 b5) fun d hd => ⟨d, rfl, rfl, by rw [List.length_append, List.length_singleton]; omega, fun y hy => by
          rcases List.mem_append.mp hy with hy | hy
          · exact h3 y hy
          · have : y = d := by simpa using hy
            rw [this]
            exact hd⟩)
      (fun _ _ _ _ _ _ _ z => by cases z) _ (fun v s' w' ys st' ok' ⟨h1, h2, h3⟩ rv => by
        rw [List.length_range] at h2
        rw [h1] at ok'
        exact C.nx s' _ _ w (st.trans st') ⟨ok', (I.sl.step st').set i (x := .d _) ⟨v, rfl, rv⟩⟩ (k ys (Nat.le_trans h2 (hG M hM)) h3))⟩
/-- name = [.. for .. in d if ..], d a shared dict -/
theorem ws_setLcK {ifs : List Expr} {p' p2 : Pos} (i : Nat) {xs : List α} {enc : α → D} {ra : α → List Sl} {f : α → Bool} {g : α → D} {is : List Nat} {ks : List Int} (own : List (Str × Nat)) (hc : X.calm = true) (hN : X.N.Nodup) (ok : BlkOk X.N X.env.scope scope own) (hz : xs.length ≤ 100000) (hi : DAt cl X r w it ks ds) (hkk : ks.map D.int = xs.map enc) (his : ∀ i ∈ is, i ∈ own.map (·.2))
    (hg : ∀ x ∈ xs, InBlk X scope fun Y => WG cl Y (wipeR r (own.map (·.2))) w tg (enc x) is (ra x))
    (ht : ∀ x ∈ xs, InBlk X scope fun Y => WTs cl Y (ra x) w ifs (f x))
    (he : ∀ x ∈ xs, f x = true → InBlk X scope fun Y => WP cl Y (ra x) w elt (g x))
    (k : F.nx (r.set i (.d (.lst ((xs.filter f).map g)))) w) (hy : X.N[i]? = some n := by rfl) (hyl : X.env.scope.names.lookup n = some .local := by rfl) (hsw : swapsWith (.ListComp elt [⟨tg, it, ifs, 0⟩] scope p2) (some (.Name n p')) pos.line X.env = pure true := by exact sw_true rfl rfl rfl rfl) (hs : ∀ x, foldedSetIterable it X.env x = pure x := by intro _; rfl) :
    WS cl X m r w (.Assign [.Name n p'] (.ListComp elt [⟨tg, it, ifs, 0⟩] scope p2) pos) F := fun B s σ D hm st I C => by
  obtain ⟨dd, vs, h1, h2, h3, h4⟩ := hi s σ I
  have run : ∀ H1 od, H1 dd = some (.frz od (.dK (kvs ks vs))) → Env X.K cl ⟨s.H0, H1, s.ps⟩ σ r w → ∀ Q : VK, (∀ v s', Step ⟨s.H0, H1, s.ps⟩ s' → Ok X.K cl s' w → R cl s'.H0 (.lst ((xs.filter f).map g)) v → Q v s'.H) → tLc (tIr X tg it) (uG X scope tg) (uTs X scope ifs) (uE X scope elt) (own.map (·.2)) σ H1 Q := fun H1 od hf I1 Q k1 =>
    lc_pureS (it := it) (tg := tg) ⟨s.H0, H1, s.ps⟩ σ I1 hz (fun Q2 k2 => ⟨_, pi_keys sE, h4 H1 I1 _ ⟨dd, od, rfl, .inl ⟨_, hf, k2 _ ⟨s.H0, H1, s.ps⟩ (.refl _) I1.ok (by rw [← hkk]; exact itd_keys hf (I.ok.notow h1) (by rw [h3.length]; exact h2))⟩⟩⟩) his hg ht he Q k1
  have ps := ps_setLc (py := p') (pos := p2) (spos := pos) hc hN hy hyl hsw (sI (X := X) (tg := tg) (it := it)) ok suG suTs suE hs
  rcases I.ok.lk dd _ h1 with hH | ⟨_, ob, hH⟩
  · refine ⟨_, ps_lock ps, dd, .dK _, hH, trivial, fun od => ?_⟩
    refine run _ od upd_same ⟨ok_lock I.ok h1, I.sl.heap⟩ _ fun v s' st' ok' rv => ?_
    obtain ⟨g1, g2, g3⟩ := ok_unlock I.ok h1 hH st' ok'
    exact ⟨g1, C.nx ⟨s'.H0, upd s'.H dd _, s'.ps⟩ _ _ w (st.trans g2) ⟨g3, (I.sl.step g2).set i (x := .d _) ⟨v, rfl, rv⟩⟩ k⟩
  · refine ⟨_, ps, ?_⟩
    exact run s.H ob hH I _ fun v s' st' ok' rv => C.nx s' _ _ w (st.trans st') ⟨ok', (I.sl.step st').set i (x := .d _) ⟨v, rfl, rv⟩⟩ k
end
end FV
set_option Elab.async false
set_option linter.all false
set_option maxRecDepth 100000
set_option maxHeartbeats 4000000
/-! The law's own defs, fourth part: another telling; what is due. -/
namespace FV
open PySem PySem.Spec PyProof.Rows L2
theorem exists_map {α : Type} {enc : α → D} {T : α → Prop} : ∀ {ys : List D}, (∀ y ∈ ys, ∃ j, y = enc j ∧ T j) → ∃ l : List α, ys = l.map enc ∧ ∀ j ∈ l, T j
  | [], _ => ⟨[], rfl, fun j h => absurd h List.not_mem_nil⟩
  | y :: ys, h => by
    obtain ⟨j, e, hj⟩ := h y List.mem_cons_self
    obtain ⟨l, e2, hl⟩ := exists_map fun z hz => h z (List.mem_cons_of_mem _ hz)
    refine ⟨j :: l, by rw [e, e2]; rfl, fun z hz => ?_⟩
    rcases List.mem_cons.mp hz with rfl | hz
    · exact hj
    · exact hl z hz
theorem asc_of : ∀ {l : List (Nat × Nat)}, (l.Pairwise fun a b => pLt a b = true) → ascP l = true
  | [], _ => rfl
  | [_], _ => rfl
  | x :: y :: r, h => by
    rw [List.pairwise_cons] at h
    unfold ascP
    rw [Bool.and_eq_true]
    exact ⟨h.1 y List.mem_cons_self, asc_of h.2⟩
theorem eP_inj {a b : Nat × Nat} (h : eP a = eP b) : a = b := by
  have h2 := D.tup.inj h
  simp only [List.cons.injEq, and_true] at h2
  exact Prod.ext (eN_inj h2.1) (eN_inj h2.2)
theorem eNs_inj {a b : List Nat} (h : eNs a = eNs b) : a = b := lNs_inj (by
  have := D.tup.inj h
  show D.lst _ = D.lst _
  rw [this])
theorem tree_mem {n : Nat} {h : List Nat} (m : h ∈ lTrees n) : h.length = n ∧ ∀ x ∈ h, x ≤ n := rows_mem (List.mem_filter.mp m).1
theorem trees_pos {n : Nat} (hn : n ≤ 4) : 1 ≤ (lTrees n).length := by
  have : ∀ m : Fin 5, 1 ≤ (lTrees m).length := by decide +kernel
  exact this ⟨n, by omega⟩
theorem trees_small {n : Nat} (hn : n ≤ 4) : (lTrees n).length ≤ 256 := by
  have h1 := List.length_filter_le goesHome (rowsTo n n)
  have h2 := rows_small hn n (Nat.le_refl _)
  have p1 : 4 ^ n ≤ 4 ^ 4 := Nat.pow_le_pow_right (by decide) hn
  unfold lTrees
  omega
def preOther (ds : List D) : Prop := ∃ (h : List Nat) (v : Nat × Nat) (p : Nat), ds = [eNs h, eP v, eN p] ∧ Sm h ∧ 1 ≤ h.length ∧ v.1 ≤ 3 ∧ v.2 ≤ 3 ∧ p ≤ h.length
def postOther (ds : List D) (x : D) : Prop := ∃ (h : List Nat) (v : Nat × Nat) (p : Nat) (t : Tel), ds = [eNs h, eP v, eN p] ∧ x = eT t ∧ formB v h.length p t = true
/-- tellings have their form -/
def TelForm : Prop := ∀ (n : Nat) (h : List Nat) (v : Nat × Nat) (p : Nat), h ∈ lTrees n → 1 ≤ n → n ≤ 4 → v.1 ≤ 3 → v.2 ≤ 3 → p ≤ n → formB v n p (lTel h v p) = true
section
variable {P : Program} {W : World} {K : PySem.W.Frag} {mg : Str → Option Value} {base : Heap} {cl : Nat → Addr}
section
variable (P : Program) (W : World) (K : PySem.W.Frag) (mg : Str → Option Value) (base : Heap) (cl : Nat → Addr)
abbrev C_other : Prop := CX1 P W K mg base 4 "_law_other" ["_law_tape_here", "_law_hung", "_law_view", "_law_place"] (spT K cl preOther postOther)
end
theorem ok_l_other {f : Addr} {fd : FuncData} (hTF : TelForm) (B : Bl mg) (C1 : C_pick P W K mg base cl) (C2 : C_any P W K mg base cl) (C3 : C_trees P W K mg base cl) (C4 : C_telling P W K mg base cl) (F : FnA K "_law_other" "_law_other" s_l_other f fd) : FnOk P W K mg base CX0 4 f fd ["_law_tape_here", "_law_hung", "_law_view", "_law_place"] (spT K cl preOther postOther) := by
  refine fn_tape F sc_l_other (fun ds ⟨h, v, p, e, _⟩ => by rw [e]; rfl) fun cdv A outer s H E hr ds ⟨h, v, p, e, S, hn1, hv1, hv2, hp⟩ => ?_
  subst e
  have hz := S.len
  refine wss_cons (ws_setp 4 sc_l_other.nd (wp_lenTm B (wp_v 1)) ?_)
  refine wss_cons (ws_ifq (wtq_gt (wq_mono (wq_pick (i := 0) (m := 3) C1 hr (by omega) rfl rfl (wp_k 3) (by omega) (by omega) pass0) fun d ⟨j, e1, _⟩ => ⟨(j : Int), e1⟩) (wp_k 0)) (fun _ => ?_) fun _ => wss_nil ?_)
  · refine wss_one (ws_retq (F := fun x => ∃ t, x = eT t ∧ formB v h.length p t = true) (wq_fnJ C4 hr (by omega) (waq_cons (F := fun x => ∃ g ∈ lTrees h.length, x = eNs g) (wq_mono (wq_tape (i := 0) (F := fun x => x ∈ (lTrees h.length).map eNs) C2 hr (by omega) rfl rfl (one_q (F := fun x => x = .lst ((lTrees h.length).map eNs)) (wq_p (wp_px (C3 h.length) hr (by omega) (wa_cons (wp_v 4) wa_nil) hz pass0) rfl)) ?_ pass0) ?_) (waq_cons (F := fun x => x = eP v) (wq_p (wp_v 2) rfl) (waq_cons (F := fun x => x = eN p) (wq_p (wp_v 3) rfl) waq_nil))) ?_ pass0) fun d ⟨t, e1, e2⟩ => ⟨d, [], rfl, ⟨h, v, p, t, rfl, e1, e2⟩, rfl⟩)
    · rintro ds ⟨x, e1, e2⟩
      subst e1 e2
      refine ⟨⟨_, rfl, ?_, ?_⟩, fun y hy => hy _ rfl⟩
      · rw [List.length_map]
        exact trees_pos hz
      · rw [List.length_map]
        have := trees_small hz
        omega
    · intro d hd
      obtain ⟨g, hg, rfl⟩ := List.mem_map.mp hd
      exact ⟨g, hg, rfl⟩
    · rintro ds ⟨x, t, rfl, ⟨g, hg, rfl⟩, x2, t2, rfl, rfl, x3, t3, rfl, rfl, rfl⟩
      obtain ⟨g1, g2⟩ := tree_mem hg
      refine ⟨(g, v, p), rfl, ⟨⟨fun x hx => by show x ≤ g.length; rw [g1]; exact g2 x hx, by show g.length ≤ 4; omega⟩, by show p ≤ g.length; omega, by show v.1 ≤ 4; omega, by show v.2 ≤ 4; omega⟩, _, rfl, hTF _ _ _ _ hg hn1 hz hv1 hv2 hp⟩
  · refine wss_cons (ws_setp 5 sc_l_other.nd (wp_if (d := eN (if p = 0 then 0 else v.1)) (wt_gtN (wp_v 3) (wp_k 0)) (fun h0 => wp_is (wp_ixT (wp_v 2) (wp_k 0) (z := eN v.1) rfl) ?_) (fun h0 => wp_is (wp_k 0) ?_)) ?_)
    · have := of_decide_eq_true h0
      rw [if_neg (by omega)]
    · have := of_decide_eq_false h0
      rw [if_pos (by omega)]
    have hmost : (if p = 0 then 0 else v.1) ≤ 3 := by split <;> omega
    generalize hM : (if p = 0 then 0 else v.1) = M at hmost
    refine wss_cons (ws_setq 6 sc_l_other.nd (F := fun x => ∃ row : List Nat, x = eNs row ∧ row.length ≤ M ∧ ∀ y ∈ row, y ≤ h.length) (wq_mono (wq_tupleL B (H := fun ds => ds.length ≤ M ∧ ∀ y ∈ ds, ∃ j, y = eN j ∧ j ≤ h.length) (wq_mono (wq_lcR (N := M) (G := fun j => j < M + 1) (T := fun y => ∃ j, y = eN j ∧ j < h.length + 1) (ra := fun j => [.o 0, .d (eNs h), .d (eP v), .d (eN p), .d (eN h.length), .d (eN M), .u, .d (eN j), .u]) [("_law_step", 7)] B rfl sc_l_other.nd (blk : BlkOk N_l_other (defScope s_l_other) _ _) (wq_pick (i := 0) (m := M + 1) C1 hr (by omega) rfl rfl (wp_addN (wp_v 5) (wp_k 1)) (by omega) (by omega) pass0) (fun j hj => by omega) (by omega) (fun i hi => hi) (fun j _ _ _ _ _ => wg_n 7 sc_l_other.nd) (fun j _ _ _ _ _ => wq_pick (i := 0) (m := h.length + 1) C1 hr (by omega) rfl rfl (wp_addN (wp_v 4) (wp_k 1)) (by omega) (by omega) pass0)) ?_)) ?_) ?_)
    · rintro d ⟨ys, e1, e2, e3⟩
      refine ⟨ys, e1, e2, fun y hy => ?_⟩
      obtain ⟨j, e4, e5⟩ := e3 y hy
      exact ⟨j, e4, by omega⟩
    · rintro d ⟨ys, e1, e2, e3⟩
      obtain ⟨l, rfl, hl⟩ := exists_map e3
      rw [List.length_map] at e2
      exact ⟨l, e1, e2, hl⟩
    · rintro d ⟨row, rfl, hr1, hr2⟩
      refine wss_cons (ws_setLcR 8 (N := 2) (G := fun j => j < 3) (T := fun y => ∃ q : Nat × Nat, y = eP q ∧ 1 ≤ q.1 ∧ q.1 ≤ h.length ∧ q.2 ≤ h.length) (ra := fun j => [.o 0, .d (eNs h), .d (eP v), .d (eN p), .d (eN h.length), .d (eN M), .d (eNs row), .d (eN j), .u]) [("_law_step", 7)] B rfl sc_l_other.nd (blk : BlkOk N_l_other (defScope s_l_other) _ _) (wq_pick (i := 0) (m := 3) C1 hr (by omega) rfl rfl (wp_k 3) (by omega) (by omega) pass0) (fun j hj => by omega) (by omega) (fun i hi => hi) (fun j _ _ _ _ _ => wg_n 7 sc_l_other.nd) (fun j _ _ _ _ _ => wq_mono (wq_tup (waq_cons (wq_addN (P := fun j => j < h.length) (wp_k 1) (wq_pick (i := 0) (m := h.length) C1 hr (by omega) rfl rfl (wp_v 4) (by omega) (by omega) pass0)) (waq_cons (wq_pick (i := 0) (m := h.length + 1) C1 hr (by omega) rfl rfl (wp_addN (wp_v 4) (wp_k 1)) (by omega) (by omega) pass0) waq_nil)) ?_) ?_) ?_)
      · rintro ds ⟨x, t, rfl, _, x2, t2, rfl, _, rfl⟩
        show 2 ≤ 100000
        decide
      · rintro d ⟨ds, rfl, x, t, rfl, ⟨j1, rfl, hj1⟩, x2, t2, rfl, ⟨j2, rfl, hj2⟩, rfl⟩
        exact ⟨(1 + j1, j2), rfl, by show 1 ≤ 1 + j1; omega, by show 1 + j1 ≤ h.length; omega, by show j2 ≤ h.length; omega⟩
      · intro ys hys1 hys2
        obtain ⟨ties, rfl, hties⟩ := exists_map hys2
        rw [List.length_map] at hys1
        refine wss_one (ws_retq (F := fun x => ∃ t, x = eT t ∧ formB v h.length p t = true) (wq_mono (wq_tup (waq_cons (F := fun x => x = eNs row) (wq_p (wp_v 6) rfl) (waq_cons (F := fun x => ∃ ys : List (Nat × Nat), x = .tup (ys.map eP) ∧ (ys.Pairwise fun a b => pLt a b = true) ∧ ∀ q ∈ ys, 1 ≤ q.1 ∧ q.1 ≤ h.length ∧ q.2 ≤ h.length) (wq_mono (wq_tupleL B (H := fun ds => ∃ ys : List (Nat × Nat), ds = ys.map eP ∧ (ys.Pairwise fun a b => pLt a b = true) ∧ ∀ q ∈ ys, 1 ≤ q.1 ∧ q.1 ≤ h.length ∧ q.2 ≤ h.length) (wq_mono (wq_sortSet (T := fun q => 1 ≤ q.1 ∧ q.1 ≤ h.length ∧ q.2 ≤ h.length) B hr rfl (wq_p (wp_v 8) ⟨ties, rfl, by omega, fun q hq => ?_⟩)) ?_)) ?_) waq_nil)) ?_) ?_) fun d ⟨t, e1, e2⟩ => ⟨d, [], rfl, ⟨h, v, p, t, rfl, e1, e2⟩, rfl⟩)
        · have := hties q hq
          exact ⟨by omega, by omega, this⟩
        · rintro d ⟨ys, e1, e2, _, e3⟩
          exact ⟨_, e1, ys, rfl, e2, e3⟩
        · rintro d ⟨ds, e1, ys, e2, e3, e4⟩
          exact ⟨ys, by rw [e1, e2], e3, e4⟩
        · rintro ds ⟨x, t, rfl, _, x2, t2, rfl, _, rfl⟩
          show 2 ≤ 100000
          decide
        · rintro d ⟨ds, rfl, x, t, rfl, rfl, x2, t2, rfl, ⟨ys, rfl, hp1, hp2⟩, rfl⟩
          refine ⟨(row, ys), rfl, ?_⟩
          unfold formB
          rw [Bool.and_eq_true, Bool.and_eq_true, Bool.and_eq_true]
          refine ⟨⟨⟨decide_eq_true (by rw [hM]; exact hr1), ?_⟩, ?_⟩, asc_of hp1⟩
          · rw [List.all_eq_true]
            exact fun y hy => decide_eq_true (hr2 y hy)
          · rw [List.all_eq_true]
            exact fun y hy => decide_eq_true (hp2 y hy)

def dueRows (told : List (Nat × Tel)) (v : Nat × Nat) (ts : List (List Nat)) : List (Nat × List Nat) := ((ts.map fun h => (lBad told v h, h)).filter fun q => !q.1.contains 0).map fun q => (q.1.length, q.2)
theorem due_snoc (told : List (Nat × Tel)) (v : Nat × Nat) (ts : List (List Nat)) (h : List Nat) : dueRows told v (ts ++ [h]) = dueRows told v ts ++ if (lBad told v h).contains 0 then [] else [((lBad told v h).length, h)] := by
  unfold dueRows
  rw [List.map_append, List.filter_append, List.map_append]
  congr 1
  rw [List.map_cons, List.map_nil, List.filter_cons]
  cases hc : (lBad told v h).contains 0 with
  | true => rfl
  | false => rfl
theorem due_len (told : List (Nat × Tel)) (v : Nat × Nat) (ts : List (List Nat)) : (dueRows told v ts).length ≤ ts.length := by
  unfold dueRows
  rw [List.length_map]
  refine Nat.le_trans (List.length_filter_le _ _) ?_
  rw [List.length_map]
  exact Nat.le_refl _
theorem due_mem {told : List (Nat × Tel)} {v : Nat × Nat} {ts : List (List Nat)} {q : Nat × List Nat} (h : q ∈ dueRows told v ts) : q.2 ∈ ts := by
  unfold dueRows at h
  obtain ⟨x, hx, rfl⟩ := List.mem_map.mp h
  obtain ⟨y, hy, rfl⟩ := List.mem_map.mp (List.mem_filter.mp hx).1
  exact hy
abbrev dDue (q : Option Nat × List (List Nat)) : D := .tup [dOpt eN q.1, .lst (q.2.map eNs)]
section
variable (P : Program) (W : World) (K : PySem.W.Frag) (mg : Str → Option Value) (base : Heap) (cl : Nat → Addr)
abbrev C_due : Prop := ∀ (n : Nat) (ts : List (List Nat)) (v : Nat × Nat) (told : List (Nat × Tel)), CX1 P W K mg base 2 "_law_due" ["_law_trees_here", "_law_view", "_law_told_here"] (PX K cl [.lst (ts.map eNs), eP v, eD eT told] (1 ≤ n ∧ n ≤ 4 ∧ (∀ h ∈ ts, h.length = n ∧ ∀ x ∈ h, x ≤ n) ∧ ts.length ≤ 256 ∧ v.1 ≤ 4 ∧ v.2 ≤ 4 ∧ (told.map (·.1)).Nodup ∧ (∀ q ∈ told, q.1 ≤ n) ∧ told.length ≤ 16) (dDue (lDue ts v told)))
end
theorem ok_l_due {f : Addr} {fd : FuncData} (B : Bl mg) (C4 : C_telling P W K mg base cl) (F : FnA K "_law_due" "_law_due" s_l_due f fd) (n : Nat) (ts : List (List Nat)) (v : Nat × Nat) (told : List (Nat × Tel)) : FnOk P W K mg base CX0 2 f fd ["_law_trees_here", "_law_view", "_law_told_here"] (PX K cl [.lst (ts.map eNs), eP v, eD eT told] (1 ≤ n ∧ n ≤ 4 ∧ (∀ h ∈ ts, h.length = n ∧ ∀ x ∈ h, x ≤ n) ∧ ts.length ≤ 256 ∧ v.1 ≤ 4 ∧ v.2 ≤ 4 ∧ (told.map (·.1)).Nodup ∧ (∀ q ∈ told, q.1 ≤ n) ∧ told.length ≤ 16) (dDue (lDue ts v told))) := by
  refine fn_px F sc_l_due rfl fun ⟨hn1, hn, hts, htl, hv1, hv2, hnd, hk, h16⟩ cdv A outer s H E hr => ?_
  have hdue : lDue ts v told = if (dueRows told v ts).isEmpty then (none, []) else (some (minL ((dueRows told v ts).map (·.1))), sortL (((dueRows told v ts).filter fun q => q.1 == minL ((dueRows told v ts).map (·.1))).map (·.2))) := rfl
  refine wss_cons (ws_newL 3 sc_l_due.nd wa_nil (by decide) ?_)
  refine wss_cons (ws_for PassesOwn.never rfl (wi_L (wp_v 0)) (fun i r1 w1 => ∃ x4 x5, r1 = [.d (.lst (ts.map eNs)), .d (eP v), .d (eD eT told), .o 0, x4, x5, .u, .u, .u] ∧ w1 = [.lst ((dueRows told v (ts.take i)).map eRow)]) ⟨_, _, rfl, rfl⟩ (fun i x r1 w1 e hP => ?_) fun r1 w1 hP => ?_)
  · obtain ⟨x4, x5, rfl, rfl⟩ := hP
    obtain ⟨h, hh0, rfl⟩ : ∃ q, ts[i]? = some q ∧ eNs q = x := by
      rw [List.getElem?_map] at e
      exact Option.map_eq_some_iff.mp e
    obtain ⟨g1, g2⟩ := hts h (List.mem_of_getElem? hh0)
    have hbd : D.lst ((told.filter fun q => !(lTel h v q.1 == q.2)).map fun q => eN q.1) = lNs (lBad told v h) := by
      show D.lst _ = D.lst _
      unfold lBad
      rw [List.map_map]
      rfl
    have hbl : (lBad told v h).length ≤ 16 := by
      unfold lBad
      rw [List.length_map]
      exact Nat.le_trans (List.length_filter_le _ _) h16
    have et : ts.take (i + 1) = ts.take i ++ [h] := by rw [List.take_add_one, hh0]; rfl
    have hdl := due_len told v (ts.take i)
    rw [List.length_take] at hdl
    refine ⟨_, _, wg_n 4 sc_l_due.nd, ?_⟩
    refine wss_cons (ws_setLcK 5 (xs := told) (enc := fun q => eN q.1) (f := fun q => !(lTel h v q.1 == q.2)) (g := fun q => eN q.1) (ra := fun q => [.d (.lst (ts.map eNs)), .d (eP v), .d (eD eT told), .o 0, .d (eNs h), x5, .d (eN q.1), .u, .u]) [("_law_place", 6)] rfl sc_l_due.nd (blk : BlkOk N_l_due (defScope s_l_due) _ _) (by omega) (dat_v 2) (told_ints _) (fun i hi => hi) (fun q hq _ _ _ _ _ => wg_n 6 sc_l_due.nd) (fun q hq _ _ _ _ _ => wts_one (wt_neD hr (wp_px (cal_one C4 (h, v, q.1)) hr (by omega) (wa_cons (wp_v 4) (wa_cons (wp_v 1) (wa_cons (wp_v 6) wa_nil))) ⟨⟨fun x hx => by show x ≤ h.length; rw [g1]; exact g2 x hx, by show h.length ≤ 4; omega⟩, by show q.1 ≤ h.length; have := hk q hq; omega, hv1, hv2⟩ pass0) (wp_dgetN hr (wp_v 2) (wp_v 6) (look_mem hnd hq)) (sh_eT _) (sh_eT _) (tel_eqv _ _))) (fun q hq _ _ _ _ _ _ => wp_v 6) ?_)
    rw [hbd]
    refine wss_one (ws_if (wt_niLN (wp_k 0) (wp_v 5)) (fun h0 => ?_) fun h0 => wss_nil ⟨_, .refl _, .d (eNs h), _, rfl, ?_⟩)
    · have hc : (lBad told v h).contains 0 = false := by simpa using h0
      refine wss_one (ws_append 3 rfl rfl (wp_tup (ds := [eN (lBad told v h).length, eNs h]) (wa_cons (wp_lenLm B (wp_v 5)) (wa_cons (wp_v 4) wa_nil)) (by show 2 ≤ 100000; decide)) (by rw [List.length_map]; omega) ⟨_, .refl _, .d (eNs h), _, rfl, ?_⟩)
      show [Ow.lst _] = [Ow.lst _]
      rw [et, due_snoc, hc, if_neg Bool.false_ne_true, List.map_append]
      rfl
    · have hc : (lBad told v h).contains 0 = true := by simpa using h0
      rw [et, due_snoc, hc, if_pos rfl, List.append_nil]
  · obtain ⟨x4, x5, rfl, rfl⟩ := hP
    rw [List.length_map, List.take_length]
    have hdl := due_len told v ts
    refine wss_cons (ws_if (wt_peek 3 rfl rfl (wt_eqN (wp_lenLm B (wp_v 3)) (wp_k 0))) (fun h0 => ?_) fun h0 => wss_nil ?_)
    · refine wss_one (ws_ret (wp_tup (wa_cons wp_non (wa_cons (wp_lst wa_nil (by decide)) wa_nil)) (by show 2 ≤ 100000; decide)) ?_)
      have : dueRows told v ts = [] := List.length_eq_zero_iff.mp (of_decide_eq_true h0)
      rw [hdue, this]
      rfl
    · have hne : dueRows told v ts ≠ [] := fun z => by
        have := of_decide_eq_false h0
        rw [z] at this
        exact this rfl
      refine wss_sub (r' := [.d (.lst (ts.map eNs)), .d (eP v), .d (eD eT told), .o 0, .u, .u, .u, .u, .u]) (.same (.same (.same (.same (.u (.u (.same (.same (.same .nil))))))))) ?_
      refine wss_share 3 0 rfl rfl rfl (Nat.zero_le _) (no_o (by simp)) ?_
      refine wss_cons (ws_setp 7 sc_l_due.nd (wp_minRow B hr rfl (wp_v 3) hne) ?_)
      refine wss_one (ws_ret (wp_tup (ds := [eN (minL ((dueRows told v ts).map (·.1))), .lst ((sortL (((dueRows told v ts).filter fun q => q.1 == minL ((dueRows told v ts).map (·.1))).map (·.2))).map eNs)]) (wa_cons (wp_v 7) (wa_cons (wp_sortL B hr (wp_is (wp_lc (xs := dueRows told v ts) (enc := eRow) (f := fun q => decide (q.1 = minL ((dueRows told v ts).map (·.1)))) (g := fun q => eNs q.2) (ra := fun q => [.d (.lst (ts.map eNs)), .d (eP v), .d (eD eT told), .d (.lst ((dueRows told v ts).map eRow)), .d (eNs q.2), .u, .u, .d (eN (minL ((dueRows told v ts).map (·.1)))), .d (eN q.1)]) [("_law_many", 8), ("_law_hung", 4)] rfl sc_l_due.nd (blk : BlkOk N_l_due (defScope s_l_due) _ _) (by omega) (wi_L (wp_v 3)) (fun i hi => hi) (fun q hq _ _ _ _ _ => wg_two rfl (wg_n 8 sc_l_due.nd) (wg_n 4 sc_l_due.nd)) (fun q hq _ _ _ _ _ => wts_one (wt_eqN (wp_v 8) (wp_v 7))) (fun q hq _ _ _ _ _ _ => wp_v 4)) ?_) ?_) wa_nil)) (by show 2 ≤ 100000; decide)) ?_)
      · show D.lst _ = D.lst _
        rw [List.map_map]
        rfl
      · intro y hy z
        obtain ⟨q, hq, rfl⟩ := List.mem_map.mp hy
        have := (hts _ (due_mem (List.mem_filter.mp hq).1)).1
        rw [z] at this
        simp at this
        omega
      · rw [hdue, if_neg (by simpa using hne)]
        rfl
end
end FV
set_option Elab.async false
set_option linter.all false
set_option maxRecDepth 100000
set_option maxHeartbeats 2000000
/-! The data layer, part S: try with a first clause that names the exception, and a second that does not. -/
namespace FV
open PySem PySem.Spec PyProof.Rows L2
/-- the wish: of the first class (it stands in slot i) or of the second -/
def wMix (nl : Nat) (K : PySem.W.Frag) (c1 : Value) (i : Nat) (t1 : Addr → Value → Option Addr → TS) (c2 : Value) (t2 : Addr → Value → Option Addr → TS) (D : Ends) : WX := fun kind dx τ G => τ.length = nl →
  ∃ y1, PySem.W.exmOne K kind c1 = some y1 ∧
    (y1 = true → ∀ e, G e = none → t1 e kind dx ⟨fun τ' G' => D.nx (τ'.set i none) G', D.rt, fun τ' G' => D.bk (τ'.set i none) G', fun τ' G' => D.ct (τ'.set i none) G'⟩ (τ.set i (some (.ref e))) G) ∧
    (y1 = false → ∃ y2, PySem.W.exmOne K kind c2 = some y2 ∧ (y2 = true → ∀ e, G e = none → t2 e kind dx D τ G) ∧ (y2 = false → False))
section
variable {X : Cx} {x1 x2 n : Str} {c1 c2 : Value} {i : Nat} {body u1 u2 : List Stmt} {v1 v2 : Stmt} {q1 q2 q3 q4 pos : Pos} {tb : WX → TS} {t1 t2 : Addr → Value → Option Addr → TS} {more : List ExceptHandler}
theorem ps_try_mix (stk : X.stack = X.env :: X.outer) (frm : X.env.frame = some X.env.locals) (nodup : X.N.Nodup) (slot : X.N[i]? = some n) (isl : X.env.kindOf n = some .local) (n1 : Names X x1 c1) (n2 : Names X x2 c2)
    (hbody : ∀ (Wi : WX) (qn : List (Addr × Obj)) (xx : Value → Shared → Prop), Takes (X.tr qn xx) Wi → PassesOwn (model X.prog X.w) X.A X.env xx → PSs (X.tr qn xx) body (tb Wi))
    (hs1 : ∀ (e : Addr) (ob : Obj) (kind : Value) (dx : Option Addr) (qn : List (Addr × Obj)), Zc kind dx ob → (∃ vs, ob.data = .fields vs) → PSs (X.suite e ((e, ob) :: qn)) (v1 :: u1) (t1 e kind dx))
    (hs2 : ∀ (e : Addr) (ob : Obj) (kind : Value) (dx : Option Addr) (qn : List (Addr × Obj)), Zc kind dx ob → (∃ vs, ob.data = .fields vs) → PSs (X.suite e ((e, ob) :: qn)) (v2 :: u2) (t2 e kind dx)) :
    PS X (.Try body (.ExceptHandler (some (.Name x1 q1)) (some n) (v1 :: u1) q2 :: .ExceptHandler (some (.Name x2 q3)) none (v2 :: u2) q4 :: more) [] [] pos) (fun D τ G => tb (wMix X.N.length X.K c1 i t1 c2 t2 D) D τ G) := ⟨fun pn0 z τ G D I h => by
  have good := I.ok
  have frames : X.A.frames = some (X.env :: X.outer) := good.frames.trans (by rw [stk])
  have lcl : Loc X.env.scope n := .inl isl
  let hdl : List ExceptHandler := .ExceptHandler (some (.Name x1 q1)) (some n) (v1 :: u1) q2 :: .ExceptHandler (some (.Name x2 q3)) none (v2 :: u2) q4 :: more
  let after : Value → Shared → Prop := fun ev za => wpAny (model X.prog X.w) X.A (noteFrame ev X.env) (fun _ zb => wpAny (model X.prog X.w) X.A (setFlight ev none) (fun _ zc => wpAny (model X.prog X.w) X.A (handleBy ev X.env hdl) (SP X pn0 D) X.xe zc) X.xe zb) X.xe za
  have hrun := (hbody (wMix X.N.length X.K c1 i t1 c2 t2 D) (X.pn ++ pn0) after (fun ev z' raised => ?_) PassesOwn.looking).run [] z τ G D (I.toTry _) h
  · refine wpAny_Try_except (wpAny_mono hrun (fun fl z1 done => ?_) (fun ev z1 he => he))
    cases fl with
    | next =>
      obtain ⟨τ1, G1, J1, w⟩ := done
      exact wpAny_execs_nil ⟨τ1, G1, J1.ofTry good, w⟩
    | brk =>
      obtain ⟨τ1, G1, J1, w⟩ := done
      exact ⟨τ1, G1, J1.ofTry good, w⟩
    | cont =>
      obtain ⟨τ1, G1, J1, w⟩ := done
      exact ⟨τ1, G1, J1.ofTry good, w⟩
    | ret val =>
      obtain ⟨y, τ1, G1, J1, rl, w⟩ := done
      exact ⟨y, τ1, G1, J1.ofTry good, rl, w⟩
  · obtain ⟨e, Bs, zi, pn1, τ1, G1, kind, dx, rfl, Jt, nb, up, sky, ne, os, ag, wish⟩ := raised
    have J : Inv X pn0 τ1 G1 zi := Jt.ofTry good
    obtain ⟨y1, ht1, yes1, no1⟩ := wish J.len
    have sky2 : Sky Bs (X.env :: X.outer) e (Zc kind dx) X.env.locals z'.heap := stk ▸ sky
    show wpAny (model X.prog X.w) X.A (noteFrame (.ref e) X.env) _ _ _
    refine Sky.land Zc.steady frames frm sky2 fun ha fla upa => ?_
    have Ja : Inv X pn0 τ1 G1 { z' with heap := ha } := J.landed nb fla.1 (up.trans upa) os ag
    obtain ⟨ob, fvs, hob, zc, hdat⟩ := fla.there
    have notIn : e ∉ frs (X.env :: X.outer) := fun hm => by
      obtain ⟨_, ob2, h2, hnf⟩ := fla.2.2.1.mem hm
      rw [hob] at h2
      cases h2
      exact hnf _ hdat
    have neL : e ≠ X.env.locals := fun y => notIn (List.mem_filterMap.mpr ⟨X.env, List.mem_cons_self, frm.trans (congrArg some y.symm)⟩)
    have neF : e ∉ X.fs := fun hm => by
      obtain ⟨en, hen, y⟩ := List.mem_filterMap.mp hm
      exact notIn (List.mem_filterMap.mpr ⟨en, List.mem_cons_of_mem _ hen, y⟩)
    have Sa := Ja.suite hob hdat ne neL neF
    have looks : PySem.W.Looks (model X.prog X.w) ha (typeOf (.ref e)) kind := fun A Q E zz k y => wpAny_typeOf_ref (k _ _ hob) (by rw [zc.1]; exact y)
    have named : ∀ {xs : Str} {c : Value} {np : Pos} {Q : Value → Shared → Prop} {E : Value → Shared → Prop}, Names X xs c → Q c { z' with heap := ha } → wpAny (model X.prog X.w) (X.A.mark (some (.ref e))) (eval (.Name xs np) X.env) Q E { z' with heap := ha } := fun {xs c np Q E} nm y => by
      obtain ⟨gl, dbg, mm | ⟨mm, bv, nn⟩⟩ := nm
      · exact ld_glob (X := X.suite e ((e, ob) :: (X.pn ++ pn0))) Sa gl mm y dbg
      · exact ld_blt (X := X.suite e ((e, ob) :: (X.pn ++ pn0))) Sa gl mm bv y nn dbg
    show wpAny (model X.prog X.w) X.A (handleBy (.ref e) X.env hdl) (SP X pn0 D) X.xe { z' with heap := ha }
    refine wpAny_handleBy_cons (codeAny_handlers_test ?_) (by intro y; cases y)
    refine named n1 ((PySem.W.exm_one (M := model X.prog X.w) Ja.kIn looks ht1).here ?_)
    cases y1 with
    | true =>
      refine codeAny_handlers_suite_as (HandSPX.lands_againZ fla fun hb flb upb => ?_)
      have Jb : Inv X pn0 τ1 G1 { z' with heap := hb } := J.landed nb flb.1 ((up.trans upa).trans upb) os ag
      obtain ⟨ob2, fvs2, hob2, zc2, hdat2⟩ := flb.there
      have Sb := Jb.suite hob2 hdat2 ne neL neF
      refine store_ok (X := X.suite e ((e, ob2) :: (X.pn ++ pn0))) (v := .ref e) Sb nodup slot lcl rfl (fun zd Sd => ?_) (.inr isl)
      have ran := (hs1 e ob2 kind dx (X.pn ++ pn0) zc2 ⟨_, hdat2⟩).run [] zd _ G1 _ Sd (yes1 rfl e ne)
      refine wpAny_mono ran (fun fl ze done => ?_) (fun _ _ y => y.elim)
      have leave : ∀ {τ2 : L2.St} {G2 : Hp} {Q : Shared → Prop}, Inv (X.suite e ((e, ob2) :: (X.pn ++ pn0))) [] τ2 G2 ze → (∀ zf, Inv X pn0 (τ2.set i none) G2 zf → Q zf) → wpAny (model X.prog X.w) X.A (do bindName X.env n .none; unbindBehindTheSuite X.env n q2) (fun _ zf => Q zf) X.xe ze := fun Se k => gone_ok (Se.unsuite good) nodup slot isl k
      cases fl with
      | next =>
        obtain ⟨τ2, G2, Se, w⟩ := done
        exact leave Se fun zf Jf => ⟨_, _, Jf, w⟩
      | brk =>
        obtain ⟨τ2, G2, Se, w⟩ := done
        exact leave Se fun zf Jf => ⟨_, _, Jf, w⟩
      | cont =>
        obtain ⟨τ2, G2, Se, w⟩ := done
        exact leave Se fun zf Jf => ⟨_, _, Jf, w⟩
      | ret val =>
        obtain ⟨y, τ2, G2, Se, rl, w⟩ := done
        exact leave Se fun zf Jf => ⟨_, _, _, Jf, rl, w⟩
    | false =>
      obtain ⟨y2, ht2, yes2, no2⟩ := no1 rfl
      show wpAny _ X.A (handleBy (.ref e) X.env (.ExceptHandler (some (.Name x2 q3)) none (v2 :: u2) q4 :: more)) _ _ _
      refine wpAny_handleBy_cons (codeAny_handlers_test ?_) (by intro y; cases y)
      refine named n2 ((PySem.W.exm_one (M := model X.prog X.w) Ja.kIn looks ht2).here ?_)
      cases y2 with
      | false => exact (no2 rfl).elim
      | true =>
        refine codeAny_handlers_suite (HandSPX.lands_againZ fla fun hb flb upb => ?_)
        have Jb : Inv X pn0 τ1 G1 { z' with heap := hb } := J.landed nb flb.1 ((up.trans upa).trans upb) os ag
        obtain ⟨ob2, fvs2, hob2, zc2, hdat2⟩ := flb.there
        have Sb := Jb.suite hob2 hdat2 ne neL neF
        have ran := (hs2 e ob2 kind dx (X.pn ++ pn0) zc2 ⟨_, hdat2⟩).run [] _ _ G1 _ Sb (yes2 rfl e ne)
        refine wpAny_mono ran (fun fl ze done => ?_) (fun _ _ y => y.elim)
        cases fl with
        | next =>
          obtain ⟨τ2, G2, Se, w⟩ := done
          exact ⟨_, _, Se.unsuite good, w⟩
        | brk =>
          obtain ⟨τ2, G2, Se, w⟩ := done
          exact ⟨_, _, Se.unsuite good, w⟩
        | cont =>
          obtain ⟨τ2, G2, Se, w⟩ := done
          exact ⟨_, _, Se.unsuite good, w⟩
        | ret val =>
          obtain ⟨y, τ2, G2, Se, rl, w⟩ := done
          exact ⟨_, _, _, Se.unsuite good, rl, w⟩⟩
end
end FV
set_option Elab.async false
set_option linter.all false
set_option maxRecDepth 100000
set_option maxHeartbeats 4000000
/-! Exceptions: TooMany made, what _law_word makes of a lambda. -/
namespace FV
open PySem PySem.Spec PyProof.Rows L2
def spTM (cT : Addr) : Sp := fun vs H Q _ => ∃ (a : Addr) (y : V), vs = [.ref a, y] ∧ H a = some (exo a cT none) ∧ ∀ dx, H dx = none → dx ≠ a → Q .non (upd (upd H dx (exd dx [("most", y)])) a (exo a cT (some dx)))
/-- the exceptions' classes -/
structure Ke (K : PySem.W.Frag) (mg : Str → Option Value) (cT cN : Addr) : Prop where
  oT : OexC K cT
  xT : XfC K cT
  most : PySem.W.findIn K (.ref cT) "most" = some none
  gT : mg "TooMany" = some (.ref cT)
  gN : mg "NotFitting" = some (.ref cN)
  tt : PySem.W.exmOne K (.ref cT) (.ref cT) = some true
  nt : PySem.W.exmOne K (.ref cN) (.ref cT) = some false
  nn : PySem.W.exmOne K (.ref cN) (.ref cN) = some true
section
variable {P : Program} {W : World} {K : PySem.W.Frag} {mg : Str → Option Value} {base : Heap} {cl : Nat → Addr}
theorem ok_TooMany_init {f : Addr} {fd : FuncData} {cT cN : Addr} (ke : Ke K mg cT cN) (F : FnA K "__init__" "TooMany.__init__" s_TooMany_init f fd) : FnOk P W K mg base CX0 1 f fd ["self", "most"] (spTM cT) := by
  refine F.ok sc_TooMany_init (fun vs H Q E h => ?_) (fun cdv A outer s H vs Q E hr h => ?_)
  · obtain ⟨a, y, rfl, _⟩ := h
    rfl
  · obtain ⟨a, y, rfl, ha, q⟩ := h
    refine ⟨_, pss_one (ps_ost (pe_var (i := 0) rfl (.inl rfl)) (pe_var (i := 1) rfl (.inl rfl))), ?_⟩
    exact ⟨y, rfl, .ref a, rfl, a, cT, rfl, ke.oT, ke.most, .inl ⟨ha, fun dx hd hne => q dx hd hne⟩⟩
/-- what _law_word makes of its lambda -/
def TTw (cT cN : Addr) : (XK → Hp → VK → Prop) → Hp → VK → Prop := fun tl H Q => (∀ (E : XK) (G : Hp) (Q1 Q2 : VK), tl E G Q1 → (∀ v G', Q1 v G' → Q2 v G') → tl E G Q2) ∧ ∀ p0, H p0 = none → tl (fun cls d H' =>
    (cls = .ref cT ∧ ∃ dd fs v, d = some dd ∧ H' dd = some (.xd fs) ∧ fs.lookup ("most" : Str) = some v ∧ ∀ p, H' p = none → Q (.ref p) (upd H' p (.tup [.str "many", v]))) ∨
    (cls = .ref cN ∧ ∀ p, H' p = none → Q (.ref p) (upd H' p (.tup [.str "fitting", .non]))))
  (upd H p0 (.tup [.str "other", .non])) fun v H' => ∀ p, H' p = none → Q (.ref p) (upd H' p (.tup [.str "let", v]))
theorem word_gives {X : Cx} {cT cN g : Addr} {cdg : Value} {q : Str} (ke : Ke X.K X.mg cT cN) : LamX.GivesTo X N_l_word "_law_word" (defScope s_l_word) g cdg (defBody s_l_word) "_law_call" q (TTw cT cN) := by
  intro f c' s H Q tl act hc h
  refine ⟨_, pss_cons (ps_set (i := 1) sc_l_word.nd rfl (.inl rfl) (pe_tup (pa_cons pe_str (pa_cons pe_non pa_nil)))) (pss_cons (ps_try_mix (i := 2) (c1 := .ref cT) (c2 := .ref cN)
      (tb := fun Wi D τ G => ∃ Ech : XK, (∀ cls d σ' H', Ech cls d H' → Wi cls d σ' H') ∧ τ[0]? = some (some (.ref f)) ∧ G c' = some (LamX.CodeO c' q) ∧ tl Ech G fun v G' => 2 ≤ sizeLine ∧ ∀ p, G' p = none → D.nx (τ.set 1 (some (.ref p))) (upd G' p (.tup [.str "let", v])))
      (t1 := fun e kind dx => tAsg (tTup (tCons (fun _ H Q => Q (V.str "many") H) (tCons (tXf e kind dx cT "most" (tVar 2)) tNil))) (gName 1))
      (t2 := fun e kind dx => tAsg (tTup (tCons (fun _ H Q => Q (V.str "fitting") H) (tCons (fun _ H Q => Q .non H) tNil))) (gName 1))
      rfl rfl sc_l_word.nd rfl rfl ⟨rfl, by decide, .inl ke.gT⟩ ⟨rfl, by decide, .inl ke.gN⟩ (fun Wi qn xx tk _ => ?_) (fun e ob kind dx qn hz hf => ?_) (fun e ob kind dx qn hz hf => ?_)) (pss_one (ps_ret (pe_var (i := 1) rfl (.inl rfl))))), ?_⟩
  · refine ⟨fun pins s' σ H' D I h' => ?_⟩
    obtain ⟨Ech, hW, h1, h2, h3⟩ := h'
    refine (pss_one (ps_set (i := 1) sc_l_word.nd rfl (.inl rfl) (pe_tup (pa_cons pe_str (pa_cons (act Wi qn xx Ech _ _ tk hW) pa_nil))))).run pins s' σ H' D I ?_
    exact ⟨h1, h2, h3⟩
  · exact pss_one (ps_set (X := ((cxOf CX0 X.prog X.w X.K X.mg X.base N_l_word "_law_word" (defScope s_l_word) g cdg X.A X.stack s H E0).nox).suite e ((e, ob) :: qn)) (i := 1) sc_l_word.nd rfl (.inl rfl) (pe_tup (pa_cons pe_str (pa_cons (pe_xf ke.xT ke.most hz hf (pe_var (i := 2) rfl (.inl rfl))) pa_nil))))
  · exact pss_one (ps_set (X := ((cxOf CX0 X.prog X.w X.K X.mg X.base N_l_word "_law_word" (defScope s_l_word) g cdg X.A X.stack s H E0).nox).suite e ((e, ob) :: qn)) (i := 1) sc_l_word.nd rfl (.inl rfl) (pe_tup (pa_cons pe_str (pa_cons pe_non pa_nil))))
  · refine ⟨by show 2 ≤ sizeLine; decide, fun p0 hp0 => ?_⟩
    have ht := h.2 p0 hp0
    have hc2 : upd H p0 (.tup [.str "other", .non]) c' = some (LamX.CodeO c' q) := by
      rw [upd_ne (ne_of_none hc hp0)]
      exact hc
    refine ⟨_, fun cls d σ' H' hE => ?_, rfl, hc2, h.1 _ _ _ _ ht fun v G' hq => ⟨by decide, fun p hp => ⟨_, rfl, hq p hp⟩⟩⟩
    intro hlen
    have hl3 : σ'.length = 3 := hlen
    rcases hE with ⟨rfl, dd, fs, v, e1, e2, e3, k⟩ | ⟨rfl, k⟩
    · refine ⟨true, ke.tt, fun _ a ha => ?_, fun z => absurd z (by decide)⟩
      refine ⟨.ref a, by rw [List.getElem?_set_self (by omega)], rfl, rfl, dd, fs, v, e1, e2, e3, (show 2 ≤ sizeLine by decide), fun p hp => ?_⟩
      refine ⟨.ref p, ?_, k p hp⟩
      rw [List.getElem?_set_ne (by omega), List.getElem?_set_self (by rw [List.length_set]; omega)]
    · refine ⟨false, ke.nt, (fun z => absurd z (by decide)), fun _ => ⟨true, ke.nn, fun _ a ha => ⟨(show 2 ≤ sizeLine by decide), fun p hp => ⟨.ref p, ?_, k p hp⟩⟩, fun z => absurd z (by decide)⟩⟩
      rw [List.getElem?_set_self (by omega)]
end
end FV
set_option Elab.async false
set_option linter.all false
set_option maxRecDepth 100000
set_option maxHeartbeats 4000000
/-! wrong: its value, its refusal. -/
namespace FV
open PySem PySem.Spec PyProof.Rows L2
/-- X(), X an own exception class without own __init__ -/
theorem pmk_bare {X : Cx} {C : Addr} {bmB : List Value} {B newId initId : String} {x : Str} {p pos : Pos} (F : ExcBaseFacts B newId initId bmB) (q : PySem.W.excIn X.K C bmB newId = true) (gC : X.mg x = some (.ref C)) (kC : PySem.W.keepIn X.K (.ref C) = true) (rs : Raises X (.ref C)) (hg : Gl X x) (hdb : (x == ("__debug__" : Str)) = false := by decide) :
    PMk X (.Call (.Name x p) [] [] pos) (fun _ H Q => Q (.ref C) none H) := fun pins s σ H Q I h => by
  refine wpAny_Call_Name_kw (ld_glob I hg gC ?_ hdb)
  refine PySem.W.callWith_K0 I.kIn kC ?_
  show wpAny _ _ (call (.ref C) []) _ _ _
  obtain ⟨bm, N, nm, qn, bs, hdct, sn, sub, ab, col, dd, k0, k1, k2, k3, k5, mN, hC, hN, hni, T⟩ := exc_obj I.kIn q
  exact wpAny_call_exc_subT F T hC hN hni (fun h' e hm => mk_of I hm rs h (I.hok.gone hm.new)) (Nat.zero_le _)
abbrev veB : List Value := [.type "ValueError", .type "Exception", .type "BaseException", .type "object"]
/-- NotFitting is made and raised -/
structure Kn (K : PySem.W.Frag) (cN : Addr) : Prop where
  ex : PySem.W.excIn K cN veB "ValueError.__new__" = true
  kp : PySem.W.keepIn K (.ref cN) = true
  sub : PySem.W.subIn K (.ref cN) (.type "BaseException") = some true
  ty : PySem.W.typeIn K (.ref cN) = some (.type "type")
/-- a def that ends by raising: the class, its dict, the heap of which G holds -/
def spR (K : PySem.W.Frag) (cl : Nat → Addr) (ds0 : List D) (c : Prop) (G : Value → Option Addr → Hp → Prop) : Sp := fun vs H _ E => ∃ s : Sta, s.H = H ∧ s.ps = [] ∧ Lk s.H0 s.H ∧ Rs cl s.H0 ds0 vs ∧ c ∧ ∀ kind d s', Step s s' → Lk s'.H0 s'.H → G kind d s'.H → E kind d s'.H
section
variable {P : Program} {W : World} {K : PySem.W.Frag} {mg : Str → Option Value} {base : Heap} {cl : Nat → Addr}
abbrev Xr (P : Program) (W : World) (K : PySem.W.Frag) (mg : Str → Option Value) (base : Heap) (N : List Str) (qual : Str) (scope : Scope) (f : Addr) (cdv : Value) (A : Around) (outer : List PySem.Env) (s : Shared) (H : Hp) (E : XK) : Cx := cxOf (L2.CX P W) P W K mg base N qual scope f cdv A outer s H E
theorem fn_raise {name qual : Str} {params : Arguments} {body : List Stmt} {scope : Scope} {f : Addr} {fd : FuncData} {N ps : List Str} {k : Nat} {ds0 : List D} {c : Prop} {G : Value → Option Addr → Hp → Prop} (F : FunD K name qual params body scope [] [] f fd) (S : FnScope N ps scope) (hl : ds0.length = ps.length)
    (hb : c → ∀ cdv A outer s H E, Room k (Xr P W K mg base N qual scope f cdv A outer s H E).A → ∀ (s0 : Sta) (σ : L2.St), Env K cl s0 σ (ds0.map Sl.d ++ List.replicate (N.length - ds0.length) .u) [] → (∀ kind d s', Step s0 s' → Lk s'.H0 s'.H → G kind d s'.H → E kind d s'.H) → ∀ D : Ends, tSs (Xr P W K mg base N qual scope f cdv A outer s H E) body D σ s0.H) : FnOk P W K mg base (L2.CX P W) (k + 1) f fd ps (spR K cl ds0 c G) := by
  refine F.ok S (fun vs H Q E h => ?_) (fun cdv A outer s H vs Q E hr h => ?_)
  · obtain ⟨s, _, _, _, rs, _⟩ := h
    rw [rs.length]
    exact hl
  · obtain ⟨s0, rfl, hps, lk, rs, hc, hE⟩ := h
    refine hb hc cdv A outer s s0.H E hr s0 (L2.start N vs) ⟨Ok.none hps lk, ?_⟩ hE _
    unfold L2.start
    rw [rs.length]
    exact (Rvs.ds rs).append (Rvs.us _ _)
section
variable (P : Program) (W : World) (K : PySem.W.Frag) (mg : Str → Option Value) (base : Heap) (cl : Nat → Addr) (cN : Addr)
abbrev C_wrong : Prop := ∀ (Q : Pic) (h : List Nat), CX1 P W K mg base 5 "wrong" ["picture", "tree"] (PX K cl [ePic Q, eTree h] (Pc Q ∧ Tr h ∧ h.length = Q.blocks ∧ tellsB Q h 0 = true) (eNs (wrongOf Q h)))
abbrev R_wrong : Prop := ∀ (Q : Pic) (h : List Nat), Cal P W K mg base (L2.CX P W) 5 "wrong" ["picture", "tree"] (spR K cl [ePic Q, eTree h] (Pc Q ∧ Tr h ∧ h.length = Q.blocks ∧ tellsB Q h 0 = false) fun kind d _ => kind = .ref cN ∧ d = none)
end
theorem wt_app {X : Cx} {r : List Sl} {w : List Ow} {e : Expr} {t : Bool} (h : WT cl X r w e t) (s : Sta) (σ : L2.St) (I : Env X.K cl s σ r w) (Q : Bool → Hp → Prop) (k : ∀ s', Step s s' → Ok X.K cl s' w → Q t s'.H) : tT X e σ s.H Q := h s σ I Q k
theorem wp_app {X : Cx} {r : List Sl} {w : List Ow} {e : Expr} {d : D} (h : WP cl X r w e d) (s : Sta) (σ : L2.St) (I : Env X.K cl s σ r w) (Q : VK) (k : ∀ v s', Step s s' → Ok X.K cl s' w → R cl s'.H0 d v → Q v s'.H) : tE X e σ s.H Q := h s σ I Q k
theorem told_b_mem {Q : Pic} {b : Nat} (h : b ∈ toldBlocks Q) : b ∈ Q.told.map (·.1) := (List.mem_filter.mp h).1
theorem ok_wrong {f : Addr} {fd : FuncData} (B : Bl mg) (G : Gn mg) (kf : Kf K cl) (C1 : C_tells P W K mg base cl) (C2 : C_told_blocks P W K mg base cl) (F : FnA K "wrong" "wrong" s_wrong f fd) (Q : Pic) (h : List Nat) : FnOk P W K mg base CX0 5 f fd ["picture", "tree"] (PX K cl [ePic Q, eTree h] (Pc Q ∧ Tr h ∧ h.length = Q.blocks ∧ tellsB Q h 0 = true) (eNs (wrongOf Q h))) := by
  refine fn_px F sc_wrong rfl fun ⟨hQ, T, hl, ht⟩ cdv A outer s H E hr => ?_
  have htl := hQ.told_len
  have hbl : (toldBlocks Q).length ≤ 16 := by
    unfold toldBlocks
    refine Nat.le_trans (List.length_filter_le _ _) ?_
    rw [List.length_map]
    exact htl
  refine wss_cons (ws_if (t := false) (wt_is (wt_neN (wp_lenTm B (wp_fld kf.tree kf.hung (wp_v 1) rfl)) (wp_fld kf.pic kf.pblocks (wp_v 0) rfl)) (by simpa using hl)) (fun z => by cases z) fun _ => wss_nil ?_)
  refine wss_cons (ws_if (t := false) (wt_is (wt_not (wt_val (wp_px (C1 Q h 0) hr (by omega) (wa_cons (wp_v 0) (wa_cons (wp_v 1) (wa_cons (wp_gint G.head) wa_nil))) ⟨hQ, T, hl, hQ.head⟩ pass0))) (by rw [ht]; rfl)) (fun z => by cases z) fun _ => wss_nil ?_)
  refine wss_one (ws_ret (wp_tupleL B (wp_lc (xs := toldBlocks Q) (enc := eN) (f := fun b => !tellsB Q h b) (g := eN) (ra := fun b => [.d (ePic Q), .d (eTree h), .d (eN b)]) [("block", 2)] rfl sc_wrong.nd (blk : BlkOk N_wrong (defScope s_wrong) _ _) (by omega) (wi_L (wp_px (C2 Q) hr (by omega) (wa_cons (wp_v 0) wa_nil) hQ pass0)) (fun i hi => hi) (fun b hb _ _ _ _ _ => wg_n 2 sc_wrong.nd) (fun b hb _ _ _ _ _ => wts_one (wt_not (wt_val (wp_px (C1 Q h b) hr (by omega) (wa_cons (wp_v 0) (wa_cons (wp_v 1) (wa_cons (wp_v 2) wa_nil))) ⟨hQ, T, hl, told_b_mem hb⟩ pass0)))) (fun b hb _ _ _ _ _ _ => wp_v 2))) rfl)
theorem ok_wrong_r {f : Addr} {fd : FuncData} {cT cN : Addr} (ke : Ke K mg cT cN) (kn : Kn K cN) (B : Bl mg) (G : Gn mg) (kf : Kf K cl) (C1 : C_tells P W K mg base cl) (F : FnA K "wrong" "wrong" s_wrong f fd) (Q : Pic) (h : List Nat) : FnOk P W K mg base (L2.CX P W) 5 f fd ["picture", "tree"] (spR K cl [ePic Q, eTree h] (Pc Q ∧ Tr h ∧ h.length = Q.blocks ∧ tellsB Q h 0 = false) fun kind d _ => kind = .ref cN ∧ d = none) := by
  refine fn_raise F sc_wrong rfl fun ⟨hQ, T, hl, ht⟩ cdv A outer s H E hr s0 σ I hE D => ?_
  refine ⟨_, pss_cons (ps_if sT sSs sSs) (pss_cons (ps_if sT (pss_one (ps_raise rfl (takes_of rfl rfl rfl rfl) (pmk_bare PySem.F.excBase_ValueError kn.ex ke.gN kn.kp (raises_own kn.sub kn.ty) rfl))) sSs) sSs), ?_⟩
  refine wt_app (r := [.d (ePic Q), .d (eTree h), .u]) (w := []) (t := false) (wt_is (wt_neN (wp_lenTm B (wp_fld kf.tree kf.hung (wp_v 1) rfl)) (wp_fld kf.pic kf.pblocks (wp_v 0) rfl)) (by simpa using hl)) s0 σ I _ fun s1 st1 ok1 => ?_
  rw [if_neg Bool.false_ne_true]
  refine ⟨_, pss_nil, ?_⟩
  refine wt_app (r := [.d (ePic Q), .d (eTree h), .u]) (w := []) (t := true) (wt_is (wt_not (wt_val (wp_px (C1 Q h 0) hr (by omega) (wa_cons (wp_v 0) (wa_cons (wp_v 1) (wa_cons (wp_gint G.head) wa_nil))) ⟨hQ, T, hl, hQ.head⟩ pass0))) (by rw [ht]; rfl)) s1 σ (I.step st1 ok1) _ fun s2 st2 ok2 => ?_
  rw [if_pos rfl]
  exact hE _ _ s2 (st1.trans st2) ok2.lk ⟨rfl, rfl⟩
end
end FV
set_option Elab.async false
set_option linter.all false
set_option maxRecDepth 100000
set_option maxHeartbeats 4000000
/-! Runs that end by raising: nearest_laid, least_wrong, nearest of too many. -/
namespace FV
open PySem PySem.Spec PyProof.Rows L2
/-- from here on the run raises: s0 is the start -/
def WR (cl : Nat → Addr) (X : Cx) (s0 : Sta) (r : List Sl) (w : List Ow) (sts : List Stmt) : Prop := ∀ (s : Sta) (σ : L2.St) (D : Ends), Step s0 s → Env X.K cl s σ r w → tSs X sts D σ s.H
section
variable {cl : Nat → Addr} {X : Cx} {s0 : Sta} {r r' : List Sl} {w w' : List Ow} {st : Stmt} {sts : List Stmt} {e c tg it : Expr} {pos p p2 : Pos} {ds : List D} {d : D} {n : Str}
theorem wr_cons (h : WS cl X s0.ps.length r w st { nx := fun r1 w1 => r1 = r' ∧ w1 = w' }) (k : WR cl X s0 r' w' sts) : WR cl X s0 r w (st :: sts) := fun s σ D stp I =>
  ⟨_, pss_cons sS sSs, h s0 s σ _ rfl stp I ⟨fun s1 σ1 r1 w1 st1 I1 q => by
    obtain ⟨rfl, rfl⟩ := q
    exact k s1 σ1 D st1 I1, fun _ _ _ _ _ _ _ q => q.elim, fun _ _ _ _ _ _ q => q.elim, fun _ _ _ _ _ _ q => q.elim⟩⟩
/-- the last statement that counts -/
theorem wr_if {p1 q1 : List Stmt} (h : WT cl X r w c true) (k : WR cl X s0 r w p1) : WR cl X s0 r w (.If c p1 q1 pos :: sts) := fun s σ D stp I =>
  ⟨_, pss_cons (ps_if sT sSs sSs) sSs, h s σ I _ fun s1 st1 ok1 => by
    rw [if_pos rfl]
    exact k s1 σ _ (stp.trans st1) (I.step st1 ok1)⟩
theorem wr_for {body : List Stmt} (hp : PassesOwn (model X.prog X.w) X.A X.env X.xe) (hc : X.calm = true) (hi : WI cl X r w tg it ds) (hx : ds[0]? = some d) {js : List Nat} (hg : WG cl X r w tg d js r') (k : WR cl X s0 r' w body) (hfs : ∀ x, foldedSetIterable it X.env x = pure x := by intro _; rfl) : WR cl X s0 r w (.For tg it body [] pos :: sts) := fun s σ D stp I => by
  refine ⟨_, pss_cons (ps_for hp hc sI sG sSs hfs) sSs, hi s σ I _ fun J s1 st1 ok1 itd => ?_⟩
  refine ⟨fun i k σ' H => i = 0 ∧ σ' = σ ∧ H = s1.H, ⟨0, rfl, rfl, rfl⟩, ?_⟩
  rintro i k2 σ' H ⟨rfl, rfl, rfl⟩
  have Ix := I.step st1 ok1
  obtain ⟨go, yl⟩ := itd.item 0 d s1 (.refl _) Ix.ok.lk hx
  refine .inr ⟨go, fun σ2 H2 => False, fun σ2 H2 z => z.elim, fun v H' y => ?_⟩
  obtain ⟨sy, rfl, sty, oky, rv⟩ := yl v H' y
  have Iy := Ix.step sty (oky _ Ix.ok)
  refine hg sy σ' v Iy rv _ fun σ2 k2 l2 c2 => ?_
  exact k sy σ2 _ ((stp.trans st1).trans sty) ⟨Iy.ok, k2⟩
end
section
variable {P : Program} {W : World} {K : PySem.W.Frag} {mg : Str → Option Value} {base : Heap} {cl : Nat → Addr}
theorem fn_wr {name qual : Str} {params : Arguments} {body : List Stmt} {scope : Scope} {f : Addr} {fd : FuncData} {N ps : List Str} {k : Nat} {ds0 : List D} {c : Prop} {G : Value → Option Addr → Hp → Prop} (F : FunD K name qual params body scope [] [] f fd) (S : FnScope N ps scope) (hl : ds0.length = ps.length)
    (hb : c → ∀ cdv A outer s H E, Room k (Xr P W K mg base N qual scope f cdv A outer s H E).A → ∀ s0 : Sta, (∀ kind d s', Step s0 s' → Lk s'.H0 s'.H → G kind d s'.H → E kind d s'.H) → s0.ps = [] → WR cl (Xr P W K mg base N qual scope f cdv A outer s H E) s0 (ds0.map Sl.d ++ List.replicate (N.length - ds0.length) .u) [] body) : FnOk P W K mg base (L2.CX P W) (k + 1) f fd ps (spR K cl ds0 c G) := by
  refine F.ok S (fun vs H Q E h => ?_) (fun cdv A outer s H vs Q E hr h => ?_)
  · obtain ⟨s, _, _, _, rs, _⟩ := h
    rw [rs.length]
    exact hl
  · obtain ⟨s0, rfl, hps, lk, rs, hc, hE⟩ := h
    refine hb hc cdv A outer s s0.H E hr s0 hE hps s0 _ _ (.refl _) ⟨Ok.none hps lk, ?_⟩
    unfold L2.start
    rw [rs.length]
    exact (Rvs.ds rs).append (Rvs.us _ _)
/-- TooMany of k -/
def GTM (cT : Addr) (k : Nat) : Value → Option Addr → Hp → Prop := fun kind d H => kind = .ref cT ∧ ∃ dd : Addr, d = some dd ∧ H dd = some (.xd [("most", .int k)])
/-- TooMany, made -/
def KTM (P : Program) (W : World) (K : PySem.W.Frag) (mg : Str → Option Value) (base : Heap) (cT : Addr) : Prop := ∃ fI fd, FnOk P W K mg base CX0 1 fI fd ["self", "most"] (spTM cT) ∧ PySem.W.findIn K (.ref cT) "__init__" = some (some (.ref fI)) ∧ PySem.W.typeIn K (.ref fI) = some (.type "function") ∧ L2.Binds K fd ["self", "most"] []
end
section
variable {cl : Nat → Addr} {X : Cx} {s0 : Sta} {r r' : List Sl} {w w' : List Ow} {st : Stmt} {sts : List Stmt} {e c tg it a b : Expr} {es : List Expr} {pos p p2 : Pos} {ds : List D} {d : D} {n : Str} {E : XK} {G : Value → Option Addr → Hp → Prop}
theorem wr_raiseTM {cT cN : Addr} {k k' : Nat} (ke : Ke X.K X.mg cT cN) (F : KTM X.prog X.w X.K X.mg X.base cT) (hR : Room k' X.A) (hk : 2 ≤ k') (hc : X.calm = true) (tk : Takes X fun cls d _ H => E cls d H) (hE : ∀ kind d s', Step s0 s' → Lk s'.H0 s'.H → GTM cT k kind d s'.H → E kind d s'.H) (ha : WP cl X r w e (eN k)) (hg : Gl X "TooMany" := by rfl) (he : starEach [e] X.env = (false, eval e X.env) :: starEach [] X.env := by rfl) (hpl : (backTo p2 (starEach [] X.env)).any (·.1) = false := by rfl) : WR cl X s0 r w (.Raise (some (.Call (.Name "TooMany" p) [e] [] p2)) none pos :: sts) := fun s σ D stp I => by
  obtain ⟨fI, fd, F, h1, h2, h3⟩ := F
  refine ⟨_, pss_cons (ps_raise hc tk (pmk_oex ke.oT h1 h2 F (hR.mono hk) h3 .nil pass0 hg ke.gT (pa_cons sE pa_nil he) (by decide) he hpl)) sSs, ha s σ I _ fun v s1 st1 ok1 rv => ⟨by show 1 ≤ 1000; decide, fun a1 ha1 => ⟨a1, v, rfl, upd_same, fun dx hd hne => ?_⟩⟩⟩
  have hd1 : s1.H dx = none := by
    have := hd
    rw [upd_ne hne] at this
    exact this
  have k2 := ok1.put (o := .xd [("most", v)]) (ok1.fresh hd1) (ok1.lk.nil hd1)
  have st2 := (stp.trans st1).put (o := .xd [("most", v)]) ((stp.trans st1).back hd1)
  have hv : v = .int k := rv
  subst hv
  refine ⟨rfl, dx, _, upd_same, by rw [upd_ne hne, upd_same], hd1, ?_⟩
  have eH : upd (del (upd (upd (upd s1.H a1 (exo a1 cT none)) dx (exd dx [("most", V.int k)])) a1 (exo a1 cT (some dx))) a1) dx (.xd [("most", .int k)]) = upd s1.H dx (.xd [("most", .int k)]) := by
    funext x
    by_cases z : x = dx
    · subst z
      rw [upd_same, upd_same]
    · rw [upd_ne z, upd_ne z]
      unfold del
      by_cases z2 : x = a1
      · subst z2
        simp [ha1]
      · simp [z2, upd_ne z2, upd_ne z]
  rw [eH]
  exact hE _ _ _ st2 k2.lk ⟨rfl, dx, rfl, upd_same⟩
/-- an expression that raises -/
def WPr (cl : Nat → Addr) (X : Cx) (s0 : Sta) (r : List Sl) (w : List Ow) (e : Expr) : Prop := ∀ (s : Sta) (σ : L2.St), Step s0 s → Env X.K cl s σ r w → ∀ Q : VK, tE X e σ s.H Q
theorem wpr_call {k k' : Nat} {ps : List Str} {pre : Prop} (F : Cal X.prog X.w X.K X.mg X.base (L2.CX X.prog X.w) k n ps (spR X.K cl ds pre G)) (hr : Room k' X.A) (hk : k ≤ k') (tk : Takes X fun cls d _ H => E cls d H) (hE : ∀ kind d s', Step s0 s' → Ok X.K cl s' w → G kind d s'.H → E kind d s'.H) (ha : WAp cl X r w (e :: es) ds) (hp : pre) (hg : Gl X n := by rfl) (hdb : (n == ("__debug__" : Str)) = false := by decide)
    (he : starEach (e :: es) X.env = (false, eval e X.env) :: starEach es X.env := by rfl) (hpl : (backTo pos (starEach es X.env)).any (·.1) = false := by rfl) : WPr cl X s0 r w (.Call (.Name n p) (e :: es) [] pos) := fun s σ stp I Q => by
  obtain ⟨f, fd, F, hm, hkp, hb⟩ := F
  refine ⟨_, pe_call F (hr.mono hk) hg hm hkp hb .nil (passes_call tk fun _ _ _ _ q => q) sA hdb he hpl, ha s σ I _ fun vs s1 st ok rs => ?_⟩
  rw [List.append_nil]
  exact ⟨⟨s1.H0, s1.H, []⟩, rfl, rfl, ok.lk, rs, hp, fun kind d s' st' lk' g => hE kind d ⟨s'.H0, s'.H, s1.ps⟩ ((stp.trans st).trans st'.over) (ok.over lk' st') g⟩
theorem wpr_ix (h : WPr cl X s0 r w a) (hb : PlainIx b := by exact fun _ _ => rfl) : WPr cl X s0 r w (.Subscript a b pos) := fun s σ stp I Q => ⟨_, pe_ix ix_tup sE sE hb, h s σ stp I _⟩
theorem wr_ret (h : WPr cl X s0 r w e) : WR cl X s0 r w (.Return (some e) pos :: sts) := fun s σ D stp I => ⟨_, pss_cons (ps_ret sE) sSs, h s σ stp I _⟩
theorem wr_forI {body : List Stmt} (hp : PassesOwn (model X.prog X.w) X.A X.env X.xe) (hc : X.calm = true) (h : WPr cl X s0 r w it) (hfs : ∀ x, foldedSetIterable it X.env x = pure x := by intro _; rfl) : WR cl X s0 r w (.For tg it body [] pos :: sts) := fun s σ D stp I =>
  ⟨_, pss_cons (ps_for hp hc sI sG sSs hfs) sSs, ⟨_, pi_list sE, h s σ stp I _⟩⟩
end
section
variable {P : Program} {W : World} {K : PySem.W.Frag} {mg : Str → Option Value} {base : Heap} {cl : Nat → Addr}
def BigTo (Q : Pic) (k : Nat) : Prop := Pw Q ∧ (10 < Q.blocks ∧ k = 10 ∨ Q.blocks ≤ 10 ∧ laidWithout Q 0 ≠ [] ∧ 1000 < ((laidWithout Q 0).map Ld.many).sum ∧ k = 1000)
section
variable (P : Program) (W : World) (K : PySem.W.Frag) (mg : Str → Option Value) (base : Heap) (cl : Nat → Addr) (cT : Addr)
abbrev R_nearest_laid : Prop := ∀ (Q : Pic) (k : Nat), Cal P W K mg base (L2.CX P W) 9 "nearest_laid" ["picture"] (spR K cl [ePic Q] (BigTo Q k) (GTM cT k))
abbrev R_least_wrong : Prop := ∀ (Q : Pic) (k : Nat), Cal P W K mg base (L2.CX P W) 10 "least_wrong" ["picture"] (spR K cl [ePic Q] (BigTo Q k) (GTM cT k))
abbrev R_nearest : Prop := ∀ (Q : Pic) (k : Nat), Cal P W K mg base (L2.CX P W) 10 "nearest" ["picture"] (spR K cl [ePic Q] (BigTo Q k) (GTM cT k))
end
theorem ok_nearest_laid_r {f : Addr} {fd : FuncData} {cT cN : Addr} (ke : Ke K mg cT cN) (kt : KTM P W K mg base cT) (hM : ∀ Q, Pc Q → LayP Q) (B : Bl mg) (G : Gn mg) (kf : Kf K cl) (C1 : C_told_blocks P W K mg base cl) (C2 : M_many P W K mg base cl) (C3 : C_laid_without P W K mg base cl) (F : FnA K "nearest_laid" "nearest_laid" s_nearest_laid f fd) (Q : Pic) (k : Nat) : FnOk P W K mg base (L2.CX P W) 9 f fd ["picture"] (spR K cl [ePic Q] (BigTo Q k) (GTM cT k)) := by
  refine fn_wr F sc_nearest_laid rfl fun ⟨hQ, hk⟩ cdv A outer s H E hr s0 hE hps => ?_
  have hfew := hQ.few
  rcases hk with ⟨hb, rfl⟩ | ⟨hb, hne, hs, rfl⟩
  · exact wr_if (wt_is (wt_gtN (wp_fld kf.pic kf.pblocks (wp_v 0) rfl) (wp_gint (i := ((10 : Nat) : Int)) G.mbw)) (by simpa using hb)) (wr_raiseTM ke kt hr (by decide) rfl (takes_of rfl rfl rfl rfl) hE (wp_gint (i := ((10 : Nat) : Int)) G.mbw))
  · refine wr_cons (ws_if (t := false) (wt_is (wt_gtN (wp_fld kf.pic kf.pblocks (wp_v 0) rfl) (wp_gint (i := ((10 : Nat) : Int)) G.mbw)) (by simpa using hb)) (fun z => by cases z) fun _ => wss_nil ⟨rfl, rfl⟩) ?_
    refine wr_for (passes_of rfl) rfl (wi_range B (wp_addN (wp_lenLm B (wp_px (C1 Q) hr (by omega) (wa_cons (wp_v 0) wa_nil) hQ.pc pass0)) (wp_k 1)) (by omega)) (d := eN 0) (by rw [List.getElem?_map, List.getElem?_range (Nat.succ_pos _)]; rfl) (wg_n 1 sc_nearest_laid.nd) ?_
    refine wr_cons (ws_setp 2 sc_nearest_laid.nd (wp_px (C3 Q 0) hr (by omega) (wa_cons (wp_v 0) (wa_cons (wp_v 1) wa_nil)) ⟨hQ, by omega⟩ pass0) ⟨rfl, rfl⟩) ?_
    have hpos : 0 < (laidWithout Q 0).length := List.length_pos_iff.mpr hne
    refine wr_if (wt_is (wt_gtN (wp_lenLm B (wp_v 2)) (wp_k 0)) (decide_eq_true hpos)) ?_
    have hsm : (laidWithout Q 0).length ≤ 256 := by
      rw [lw_data]
      refine Nat.le_trans (List.length_filterMap_le _ _) ?_
      rw [List.length_map]
      exact lots_small hfew (by omega)
    refine wr_if (wt_is (wt_gt (wp_sumL (ns := (laidWithout Q 0).map fun L => ((L.many : Nat) : Int)) B rfl (wp_is (wp_lcm (xs := laidWithout Q 0) (enc := eLd) (g := fun L => eN L.many) (ra := fun L => [.d (ePic Q), .d (eN 0), .d (.lst ((laidWithout Q 0).map eLd)), .d (eLd L)]) [("one", 3)] rfl sc_nearest_laid.nd (blk : BlkOk N_nearest_laid (defScope s_nearest_laid) _ _) (by omega) (wi_L (wp_v 2)) (fun i hi => hi) (fun L hL _ _ _ _ _ => wg_n 3 sc_nearest_laid.nd) (fun L hL _ _ _ _ _ => wp_mx0 (C2 L) hr (by omega) (wp_v 3) (by decide) (lw_ok hM hQ hL).ld pass0)) ?_)) (wp_gint G.mtr)) ?_) (wr_raiseTM ke kt hr (by decide) rfl (takes_of rfl rfl rfl rfl) hE (wp_gint (i := ((1000 : Nat) : Int)) G.mtr))
    · rw [List.map_map]
      rfl
    · have e2 : ((laidWithout Q 0).map fun L => ((L.many : Nat) : Int)).sum = ((((laidWithout Q 0).map Ld.many).sum : Nat) : Int) := by
        rw [← sum_cast, List.map_map]
        rfl
      rw [e2, decide_eq_true]
      omega
theorem ok_least_wrong_r {f : Addr} {fd : FuncData} {cT : Addr} (C1 : R_nearest_laid P W K mg base cl cT) (F : FnA K "least_wrong" "least_wrong" s_least_wrong f fd) (Q : Pic) (k : Nat) : FnOk P W K mg base (L2.CX P W) 10 f fd ["picture"] (spR K cl [ePic Q] (BigTo Q k) (GTM cT k)) := by
  refine fn_wr F sc_least_wrong rfl fun hQ cdv A outer s H E hr s0 hE hps => ?_
  exact wr_ret (wpr_ix (wpr_call (C1 Q k) hr (by omega) (takes_of rfl rfl rfl rfl) (fun kind d s' st ok g => hE kind d s' st ok.lk g) (wa_cons (wp_v 0) wa_nil) hQ))
theorem ok_nearest_r {f : Addr} {fd : FuncData} {cT : Addr} (C1 : R_nearest_laid P W K mg base cl cT) (F : FnA K "nearest" "nearest" s_nearest f fd) (Q : Pic) (k : Nat) : FnOk P W K mg base (L2.CX P W) 10 f fd ["picture"] (spR K cl [ePic Q] (BigTo Q k) (GTM cT k)) := by
  refine fn_wr F sc_nearest rfl fun hQ cdv A outer s H E hr s0 hE hps => ?_
  refine wr_cons (ws_newL 1 sc_nearest.nd wa_nil (by decide) ⟨rfl, rfl⟩) ?_
  exact wr_forI (passes_of rfl) rfl (wpr_ix (wpr_call (C1 Q k) hr (by omega) (takes_of rfl rfl rfl rfl) (fun kind d s' st ok g => hE kind d s' st ok.lk g) (wa_cons (wp_v 0) wa_nil) hQ))
end
end FV
set_option Elab.async false
set_option linter.all false
set_option maxRecDepth 100000
set_option maxHeartbeats 2000000
/-! The data layer, part T: a lambda handed to a def; only the maker's own table changes. -/
namespace FV
open PySem PySem.Spec PyProof.Rows L2 LamX
/-- the heap once a lambda of the name q is made: its code object is at the first place -/
inductive LamG (P : Addr) (q : Str) (H : Hp) : Addr → Hp → Prop
  | hit {k : Addr} (h : H k = some (CodeO k q)) : LamG P q H k H
  | mis {k : Addr} {old : Array Value} {i j : Value} (hP : H P = some (.tbl old)) (nk : H k = none) (tr : TriplesOk (old.toList ++ [i, j, .ref k])) (am : ∀ (z : Pos) (cv : Value), codeAmong z (old.toList ++ [i, j, .ref k]) = some cv → codeAmong z old.toList = some cv ∨ cv = .ref k) : LamG P q H k (upd (upd H P (.tbl (old ++ #[i, j, .ref k]))) k (CodeO k q))
theorem LamG.code {P k : Addr} {q : Str} {H H1 : Hp} (g : LamG P q H k H1) : H1 k = some (CodeO k q) := by
  cases g with
  | hit h => exact h
  | mis => exact upd_same
section
variable {X : Cx} {σ : L2.St} {H : Hp} {z : Shared} {pins : List (Addr × Obj)}
abbrev lamQ (q : Str) : Str := q ++ "<lambda>"
abbrev lamN (X : Cx) : Str := lamQ X.env.qual
abbrev lamOb (X : Cx) (ar : Arguments) (b : Expr) (sc : Scope) (m : Value) (k : Addr) (v : Value) : Obj := PySem.W.kla_obj "<lambda>" (lamN X) ar b sc (cloFrom X.env.cells sc.names []) m k v
theorem lam_born {P k0 : Addr} {ar : Arguments} {b : Expr} {sc : Scope} {lp : Pos} {Q E : Value → Shared → Prop} (TB : TabB X.base X.mg k0 P) (hk : X.env.code = .ref k0) (hd : defaultsOf ar X.env = ([], [])) (hf : ∀ y ∈ sc.names, y.2 = .free → ∃ c, X.env.cells.lookup y.1 = some c) (I : Inv X pins σ H z) (hT : TabS H P (lamN X))
    (go : ∀ (g k : Addr) (m v : Value) (G : Hp) (z' : Shared), Inv X pins σ G z' → LamG P (lamN X) H k G → z'.heap.get? g = some (lamOb X ar b sc m k v) → G g = none → g ∉ frs X.stack → Q (.ref g) z') : wpAny (model X.prog X.w) X.A (eval (.Lambda ar b sc lp) X.env) Q E z := by
  obtain ⟨old, e1, e2, e3⟩ := hT
  apply PySem.W.kla_eval hd
  have bi := TB.bm.keeps I.bk
  have cd := TB.code.keeps I.bk
  have gl := I.mod.glob.keeps I.bk
  have e4 : z.heap.get? P = some { cls := .none, data := .fields old } := I.hok P _ e1
  have nf : ∀ g, z.heap.objs.size ≤ g → g ∉ frs X.stack := by
    intro g hg hm
    rcases List.mem_cons.mp (I.stkSub _ hm) with q | q
    · rw [q] at hg
      exact absurd I.lt (Nat.not_lt.mpr hg)
    · exact I.nofs hg q
  rcases hh : codeAmong lp old.toList with _ | cv
  · apply PySem.W.kla_makeFunction (closure_ok hf) I.ok.glob gl hk cd e4 e2 hh TB.gP bi
    intro k v h2 tk x1 x2 x3 x4 x5
    obtain ⟨k', oc, vs, tt, y1, y2, y3, y4⟩ := x4
    cases y1
    have nk : H k = none := I.hok.fresh x2
    have le : z.heap.objs.size ≤ h2.objs.size := by omega
    refine go h2.objs.size k ((X.mg "__name__").getD .none) v _ _ (inv_table (more := #[rawInt lp.line, rawInt lp.col, .ref k]) I e1 (fun b o hb e => Heap.get?_push_of_some _ (x1 b o hb e)) (Heap.get?_push_of_some _ x5) x2 ⟨oc, vs, tt, Heap.get?_push_of_some _ y2, y3, y4⟩) (.mis e1 nk (PySem.TriplesOk_snoc _ _ _ _ e2) fun w cv hc => ?_) (Heap.get?_push_size _ rfl) ?_ (nf _ le)
    · have tri : ∀ l : List Value, TriplesOk l → codeAmong w (l ++ [rawInt lp.line, rawInt lp.col, .ref k]) = some cv → codeAmong w l = some cv ∨ cv = .ref k := by
        intro l
        fun_induction TriplesOk l with
        | case1 =>
          intro _ h
          rw [List.nil_append] at h
          simp only [rawInt, codeAmong] at h
          split at h
          · right
            exact (Option.some.inj h).symm
          · exact absurd h (by simp)
        | case2 a t b u x rest ih =>
          intro ht h
          rw [List.cons_append, List.cons_append, List.cons_append] at h
          simp only [codeAmong] at h ⊢
          split at h
          · rename_i q
            rw [if_pos q]
            left
            exact h
          · rename_i q
            rw [if_neg q]
            exact ih ht h
        | case3 l h1 h2 => exact fun h => h.elim
      exact tri _ e2 hc
    · have n1 : h2.objs.size ≠ k := (Nat.ne_of_lt x3).symm
      have n2 : h2.objs.size ≠ P := (Nat.ne_of_lt (Nat.lt_of_lt_of_le (Heap.lt_size e4) le)).symm
      rw [upd_ne n1, upd_ne n2]
      exact I.hok.fresh le
  · obtain ⟨k, y1, y2⟩ := e3 lp cv hh
    subst y1
    apply PySem.W.kla_makeFunctionHit (closure_ok hf) I.ok.glob gl hk cd e4 e2 hh bi
    intro v h2 tk x1 x2
    exact go h2.objs.size k ((X.mg "__name__").getD .none) v H _ (I.kept fun b o e => Heap.get?_push_of_some _ (x1 b o e)) (.hit y2) (Heap.get?_push_size _ rfl) (I.hok.fresh x2) (nf _ x2)
/-- the call x(lambda: b), only the table at P changes -/
def tLamG (P : Addr) (q : Str) (TT : (XK → Hp → VK → Prop) → Hp → VK → Prop) (t : XK → TE) : TE := fun σ H Q => TabS H P q ∧ ∀ k G, LamG P q H k G → TT (fun E H' Q' => t E σ H' Q') G Q
/-- the def that gets the lambda -/
structure LamTo (X : Cx) (x a : Str) (q : Str) (TT : (XK → Hp → VK → Prop) → Hp → VK → Prop) : Prop where
  it : ∃ (g : Addr) (pg : Arguments) (bg : List Stmt) (sg : Scope) (dV kV doc pm cdv ct oc : Value) (an od : Option Addr) (osl : Array (Option Value)) (Ng : List Str), X.mg x = some (.ref g) ∧ PySem.W.keepIn X.K (.ref g) = true ∧ X.K.lookup g = some ⟨oc, od, .func (PySem.W.fnOf x x pg bg sg dV kV doc pm an cdv ct), osl⟩ ∧ PySem.W.codeIn X.K cdv x = true ∧ L2.Binds X.K (PySem.W.fnOf x x pg bg sg dV kV doc pm an cdv ct) [a] [] ∧
    FnScope Ng [a] sg ∧ Ng[0]? = some a ∧ Vis sg a ∧ GivesTo X Ng x sg g cdv bg a q TT
theorem pe_lamG {P k0 : Addr} {k : Nat} {x a : Str} {TT : (XK → Hp → VK → Prop) → Hp → VK → Prop} {ar : Arguments} {b : Expr} {sc : Scope} {t : XK → TE} {p lp cp : Pos} (to : LamTo X x a (lamN X) TT) (TB : TabB X.base X.mg k0 P) (hk : X.env.code = .ref k0) (room : Room (k + 2) X.A) (L : LamS X.env.scope sc)
    (hbody : ∀ (A : Around) (outer : List PySem.Env) (s : Shared) (H : Hp) (E : XK) (f c' : Addr), Room k (A.deeper (lamEnv X sc s.heap.objs.size f c')) → PE (lamCx X A outer s H E sc f c') b (t E)) (hg : Gl X x := by rfl) (hd : defaultsOf ar X.env = ([], []) := by rfl)
    (hbind : ∀ (q : Str) (cl : List (Str × Addr)) (pm cv ctv : Value), bindArgs (PySem.W.kla_fn "<lambda>" q ar b sc cl pm cv ctv) ⟨[], []⟩ = pure [] := by intros; rfl) (d1 : (x == ("__debug__" : Str)) = false := by decide) (d2 : (a == ("__debug__" : Str)) = false := by decide) (d3 : (a == ("__classdict__" : Str)) = false := by decide) :
    PE X (.Call (.Name x p) [.Lambda ar b sc lp] [] cp) (tLamG P (lamN X) TT t) := ⟨by
  intro pins z σ H Q I ⟨hT, h⟩
  obtain ⟨g, pg, bg, sg, dV, kV, doc, pm, cdv, ct, oc, an, od, osl, Ng, m1, m2, m3, m4, m5, m6, m7, m8, m9⟩ := to.it
  apply wpAny_Call_Name_kw
  apply ld_glob I hg m1 _ d1
  apply PySem.W.callWith_K (h₀ := X.base) I.ok.mod.kin m2 _ (by rfl) (by rfl)
  show wpAny _ _ (spliced ((false, eval (.Lambda ar b sc lp) X.env) :: backTo cp (starEach [] X.env))) _ _ z
  apply Calls.spliced_cons
  apply lam_born TB hk hd (L.has I.ok) I hT
  intro f k' pm' cv' G z' J lg hf hfn hfr
  refine Calls.spliced_nil ⟨J.kIn, ?_⟩
  have run : codeAny (model X.prog X.w) X.A (.call (.ref g) ⟨[.ref f], []⟩) (CR C8.CX0 X.stack X.prog X.w G z' Q C8.E0) z' := by
    apply run_ofS (vs := [.ref f]) m3 m4 m6 room J.env0 (m5 z' [.ref f] J.kIn rfl) (.cons rfl .nil) rfl
    intro room'
    obtain ⟨t', u1, u2⟩ := m9 f k' z' G Q (fun E H' Q' => t E σ H' Q') (fun W pn xe E p1 p2 tk hW => pe_act (i := 0) J L hf hfn hfr (hbind _ _ _ _ _) tk hW room' (fun A outer s H hr2 => hbody A outer s H E f k' hr2) m7 m8 d2 d3) lg.code (h k' G lg)
    exact ⟨t', u1.nox, u2⟩
  apply wpAny_call
  apply codeAny_mono run
  intro r z2 hq
  match r, hq with
  | .error _, hq => exact False.elim hq
  | .ok (.ret _), hq => exact J.after hq
  | .ok .next, hq => exact False.elim hq
  | .ok .brk, hq => exact False.elim hq
  | .ok .cont, hq => exact False.elim hq⟩
end
end FV
set_option Elab.async false
set_option linter.all false
set_option maxRecDepth 100000
set_option maxHeartbeats 4000000
/-! _law_word(lambda: ..): what comes back. -/
namespace FV
open PySem PySem.Spec PyProof.Rows L2 LamX
section
variable {K : PySem.W.Frag} {cl : Nat → Addr}
theorem lam_sta {s : Sta} {w : List Ow} {j : Nat} {P k : Addr} {q : Str} {G : Hp} (ok : Ok K cl s w) (hw : w[j]? = some (.tb P q)) (g : LamG P q s.H k G) : ∃ s1, s1.H = G ∧ Step s s1 ∧ Ok K cl s1 w := by
  have hj := ok.tb j P q hw
  cases g with
  | hit h => exact ⟨s, rfl, .refl _, ok⟩
  | @mis old i i2 hP nk tr am =>
    have hne : P ≠ k := ne_of_none hP nk
    obtain ⟨_, h0, ps, g1, g2, g3⟩ := ok.own_at hj hw
    have st1 := Step.add (o := CodeO k q) ok.lk nk
    have ok1 := ok.add (o := CodeO k q) nk
    have st2 := st1.own_set (o := .tbl (old ++ #[i, i2, .ref k])) (p := P) (.inl (mem_ps hj))
    have hg : s.H P = some (.tbl ps) := g1
    rw [hP] at hg
    cases hg
    have ok2 := ok1.own_set (n := j) (p := P) (o := .tbl (old ++ #[i, i2, .ref k])) (u := .tb P q) hj ⟨rfl, by
      show upd s.H0 k _ P = none
      rw [upd_ne hne]
      exact h0, _, upd_same, by simpa using tr, fun pos cv hc => by
      rcases am pos cv (by simpa using hc) with z | z
      · obtain ⟨c, e1, e2⟩ := g3 pos cv z
        refine ⟨c, e1, ?_⟩
        show upd s.H0 k _ c = _
        by_cases y : c = k
        · subst y
          exact upd_same
        · rw [upd_ne y]
          exact e2
      · exact ⟨k, z, upd_same⟩⟩
    have ew : w.set j (.tb P q) = w := by
      apply List.ext_getElem?
      intro n
      by_cases z : j = n
      · subst z
        rw [List.getElem?_set_self (List.getElem?_eq_some_iff.mp hw).1, hw]
      · rw [List.getElem?_set_ne z]
    rw [ew] at ok2
    refine ⟨_, ?_, st2, ok2⟩
    show upd (upd s.H k (CodeO k q)) P _ = upd (upd s.H P _) k _
    funext x
    by_cases z : x = P
    · subst z
      rw [upd_same, upd_ne hne, upd_same]
    · rw [upd_ne z]
      by_cases y : x = k
      · subst y
        rw [upd_same, upd_same]
      · rw [upd_ne y, upd_ne y, upd_ne z]
theorem tb_tabS {s : Sta} {w : List Ow} {j : Nat} {P : Addr} {q : Str} (ok : Ok K cl s w) (hw : w[j]? = some (.tb P q)) : TabS s.H P q := by
  obtain ⟨_, h0, ps, g1, g2, g3⟩ := ok.own_at (ok.tb j P q hw) hw
  refine ⟨ps, g1, g2, fun pos cv hc => ?_⟩
  obtain ⟨c, e1, e2⟩ := g3 pos cv hc
  refine ⟨c, e1, ?_⟩
  exact ok.lk.pl e2 fun z y => by
    unfold CodeO at y
    cases y
end
section
variable {X : Cx}
/-- the lambda's body, in whatever context it is run -/
abbrev InLam (X : Cx) (k : Nat) (sc : Scope) (P : XK → Cx → Prop) : Prop := ∀ (A : Around) (outer : List PySem.Env) (s : Shared) (H : Hp) (E : XK) (f c' : Addr), Room k (A.deeper (lamEnv X sc s.heap.objs.size f c')) → P E (lamCx X A outer s H E sc f c')
def uL (X : Cx) (k : Nat) (sc : Scope) (b : Expr) (E : XK) : TE := fun σ H Q => ∃ Q1 : VK, (∀ (A : Around) (outer : List PySem.Env) (s : Shared) (H' : Hp) (f c' : Addr), Room k (A.deeper (lamEnv X sc s.heap.objs.size f c')) → tE (lamCx X A outer s H' E sc f c') b σ H Q1) ∧ ∀ v G, Q1 v G → Q v G
theorem uL_pe {k : Nat} {sc : Scope} {b : Expr} (A : Around) (outer : List PySem.Env) (s : Shared) (H : Hp) (E : XK) (f c' : Addr) (hr : Room k (A.deeper (lamEnv X sc s.heap.objs.size f c'))) : PE (lamCx X A outer s H E sc f c') b (uL X k sc b E) := ⟨fun pins s' σ H' Q I h => by
  obtain ⟨Q1, h1, h2⟩ := h
  refine wpAny_mono (sE.run pins s' σ H' Q1 I (h1 A outer s H f c' hr)) (fun v s2 hv => ?_) fun e s2 he => he
  obtain ⟨v', H2, I2, r2, q2⟩ := hv
  exact ⟨v', H2, I2, r2, h2 _ _ q2⟩⟩
variable {cl : Nat → Addr} {r : List Sl} {w : List Ow} {P k0 cT cN : Addr} {k j : Nat} {ar : Arguments} {b : Expr} {sc : Scope} {p lp cp : Pos} {x a : Str}
theorem uL_mono {E : XK} {G : Hp} {σ : L2.St} {Q1 Q2 : VK} (h : uL X k sc b E σ G Q1) (m : ∀ v G', Q1 v G' → Q2 v G') : uL X k sc b E σ G Q2 := by
  obtain ⟨Q0, h1, h2⟩ := h
  exact ⟨Q0, h1, fun v G q => m v G (h2 v G q)⟩
theorem ok_tup {K : PySem.W.Frag} {s : Sta} {ds : List D} {vs : List V} {p : Addr} (ok : Ok K cl s w) (rs : Rs cl s.H0 ds vs) (hp : s.H p = none) : Step s (s.add p (.tup vs)) ∧ Ok K cl (s.add p (.tup vs)) w ∧ R cl (s.add p (.tup vs)).H0 (.tup ds) (.ref p) := ⟨.add ok.lk hp, ok.add hp, p, vs, rfl, upd_same, rs.mono (Ex.new (ok.lk.nil hp))⟩
/-- the value that the lambda gives -/
theorem wp_word {d : D} (hw : w[j]? = some (.tb P (lamN X))) (to : LamTo X x a (lamN X) (TTw cT cN)) (TB : TabB X.base X.mg k0 P) (hk : X.env.code = .ref k0) (room : Room (k + 2) X.A) (L : LamS X.env.scope sc)
    (hb : InLam X k sc fun E Y => WP cl Y r w b d) (hg : Gl X x := by rfl) (hd : defaultsOf ar X.env = ([], []) := by rfl)
    (hbind : ∀ (q : Str) (cl : List (Str × Addr)) (pm cv ctv : Value), bindArgs (PySem.W.kla_fn "<lambda>" q ar b sc cl pm cv ctv) ⟨[], []⟩ = pure [] := by intros; rfl) (d1 : (x == ("__debug__" : Str)) = false := by decide) (d2 : (a == ("__debug__" : Str)) = false := by decide) (d3 : (a == ("__classdict__" : Str)) = false := by decide) :
    WP cl X r w (.Call (.Name x p) [.Lambda ar b sc lp] [] cp) (.tup [.str "let", d]) := fun s σ I Q q => by
  refine ⟨_, pe_lamG to TB hk room L (t := uL X k sc b) (fun A outer s H E f c' hr => uL_pe A outer s H E f c' hr) hg hd hbind d1 d2 d3, tb_tabS I.ok hw, fun k1 G lg => ⟨fun E G Q1 Q2 h m => uL_mono h m, fun p0 hp0 => ?_⟩⟩
  obtain ⟨s1, rfl, st1, ok1⟩ := lam_sta I.ok hw lg
  obtain ⟨st2, ok2, _⟩ := ok_tup (ds := [.str "other", .non]) (vs := [.str "other", .non]) ok1 ⟨_, _, rfl, rfl, _, _, rfl, rfl, rfl⟩ hp0
  refine ⟨_, fun A outer s H f c' hr => hb A outer s H _ f c' hr (s1.add p0 _) σ ((I.step st1 ok1).step st2 ok2) (fun v G => ∃ s', G = s'.H ∧ Step (s1.add p0 (.tup [.str "other", .non])) s' ∧ Ok X.K cl s' w ∧ R cl s'.H0 d v) (fun v s' st' ok' rv => ⟨s', rfl, st', ok', rv⟩), fun v G h => ?_⟩
  obtain ⟨s', rfl, st', ok', rv⟩ := h
  intro p3 hp3
  obtain ⟨st4, ok4, rv4⟩ := ok_tup (ds := [.str "let", d]) (vs := [.str "let", v]) ok' ⟨_, _, rfl, rfl, _, _, rfl, rv, rfl⟩ hp3
  exact q _ (s'.add p3 _) (((st1.trans st2).trans st').trans st4) ok4 rv4
/-- the lambda raises NotFitting -/
theorem wp_wordN (hw : w[j]? = some (.tb P (lamN X))) (to : LamTo X x a (lamN X) (TTw cT cN)) (TB : TabB X.base X.mg k0 P) (hk : X.env.code = .ref k0) (room : Room (k + 2) X.A) (L : LamS X.env.scope sc)
    (hb : InLam X k sc fun E Y => ∀ s0, (∀ kind d s', Step s0 s' → Ok X.K cl s' w → (kind = .ref cN ∧ d = none) → E kind d s'.H) → WPr cl Y s0 r w b) (hg : Gl X x := by rfl) (hd : defaultsOf ar X.env = ([], []) := by rfl)
    (hbind : ∀ (q : Str) (cl : List (Str × Addr)) (pm cv ctv : Value), bindArgs (PySem.W.kla_fn "<lambda>" q ar b sc cl pm cv ctv) ⟨[], []⟩ = pure [] := by intros; rfl) (d1 : (x == ("__debug__" : Str)) = false := by decide) (d2 : (a == ("__debug__" : Str)) = false := by decide) (d3 : (a == ("__classdict__" : Str)) = false := by decide) :
    WP cl X r w (.Call (.Name x p) [.Lambda ar b sc lp] [] cp) (.tup [.str "fitting", .non]) := fun s σ I Q q => by
  refine ⟨_, pe_lamG to TB hk room L (t := uL X k sc b) (fun A outer s H E f c' hr => uL_pe A outer s H E f c' hr) hg hd hbind d1 d2 d3, tb_tabS I.ok hw, fun k1 G lg => ⟨fun E G Q1 Q2 h m => uL_mono h m, fun p0 hp0 => ?_⟩⟩
  obtain ⟨s1, rfl, st1, ok1⟩ := lam_sta I.ok hw lg
  obtain ⟨st2, ok2, _⟩ := ok_tup (ds := [.str "other", .non]) (vs := [.str "other", .non]) ok1 ⟨_, _, rfl, rfl, _, _, rfl, rfl, rfl⟩ hp0
  refine ⟨fun _ _ => False, fun A outer s H f c' hr => hb A outer s H _ f c' hr (s1.add p0 (.tup [.str "other", .non])) (fun kind d s' st' ok' g => .inr ⟨g.1, fun p3 hp3 => ?_⟩) (s1.add p0 _) σ (.refl _) ((I.step st1 ok1).step st2 ok2) _, fun v G h => h.elim⟩
  obtain ⟨st4, ok4, rv4⟩ := ok_tup (ds := [.str "fitting", .non]) (vs := [.str "fitting", .non]) ok' ⟨_, _, rfl, rfl, _, _, rfl, rfl, rfl⟩ hp3
  exact q _ (s'.add p3 _) (((st1.trans st2).trans st').trans st4) ok4 rv4
/-- the lambda raises TooMany -/
theorem wp_wordT {m : Nat} (hw : w[j]? = some (.tb P (lamN X))) (to : LamTo X x a (lamN X) (TTw cT cN)) (TB : TabB X.base X.mg k0 P) (hk : X.env.code = .ref k0) (room : Room (k + 2) X.A) (L : LamS X.env.scope sc)
    (hb : InLam X k sc fun E Y => ∀ s0, (∀ kind d s', Step s0 s' → Ok X.K cl s' w → GTM cT m kind d s'.H → E kind d s'.H) → WPr cl Y s0 r w b) (hg : Gl X x := by rfl) (hd : defaultsOf ar X.env = ([], []) := by rfl)
    (hbind : ∀ (q : Str) (cl : List (Str × Addr)) (pm cv ctv : Value), bindArgs (PySem.W.kla_fn "<lambda>" q ar b sc cl pm cv ctv) ⟨[], []⟩ = pure [] := by intros; rfl) (d1 : (x == ("__debug__" : Str)) = false := by decide) (d2 : (a == ("__debug__" : Str)) = false := by decide) (d3 : (a == ("__classdict__" : Str)) = false := by decide) :
    WP cl X r w (.Call (.Name x p) [.Lambda ar b sc lp] [] cp) (.tup [.str "many", eN m]) := fun s σ I Q q => by
  refine ⟨_, pe_lamG to TB hk room L (t := uL X k sc b) (fun A outer s H E f c' hr => uL_pe A outer s H E f c' hr) hg hd hbind d1 d2 d3, tb_tabS I.ok hw, fun k1 G lg => ⟨fun E G Q1 Q2 h m => uL_mono h m, fun p0 hp0 => ?_⟩⟩
  obtain ⟨s1, rfl, st1, ok1⟩ := lam_sta I.ok hw lg
  obtain ⟨st2, ok2, _⟩ := ok_tup (ds := [.str "other", .non]) (vs := [.str "other", .non]) ok1 ⟨_, _, rfl, rfl, _, _, rfl, rfl, rfl⟩ hp0
  refine ⟨fun _ _ => False, fun A outer s H f c' hr => hb A outer s H _ f c' hr (s1.add p0 (.tup [.str "other", .non])) (fun kind d s' st' ok' g => ?_) (s1.add p0 _) σ (.refl _) ((I.step st1 ok1).step st2 ok2) _, fun v G h => h.elim⟩
  obtain ⟨g1, dd, g2, g3⟩ := g
  refine .inl ⟨g1, dd, _, .int m, g2, g3, rfl, fun p3 hp3 => ?_⟩
  obtain ⟨st4, ok4, rv4⟩ := ok_tup (ds := [.str "many", eN m]) (vs := [.str "many", .int m]) ok' ⟨_, _, rfl, rfl, _, _, rfl, rfl, rfl⟩ hp3
  exact q _ (s'.add p3 _) (((st1.trans st2).trans st').trans st4) ok4 rv4
end
end FV
set_option Elab.async false
set_option linter.all false
set_option maxRecDepth 100000
set_option maxHeartbeats 4000000
/-! great_right: rules it wants. -/
namespace FV
open PySem PySem.Spec PyProof.Rows L2 LamX
section
variable {X : Cx} {cl : Nat → Addr} {r : List Sl} {w : List Ow}
/-- {k: v} -/
theorem wp_dict1 {i : Int} {d : D} {ke ve : Expr} {pos : Pos} (hk : WP cl X r w ke (.int i)) (hv : WP cl X r w ve d) : WP cl X r w (.Dict [some ke] [ve] pos) (.dic [i] [d]) := fun s σ I Q q => by
  refine ⟨_, pe_disp (pps_cons sE sE pps_nil) rfl rfl (fun z => by cases z) (by show 1 ≤ 15; decide), fun p np => ?_⟩
  have h0 : Hid X.K cl s w ⟨s.H0, upd s.H p (.dK []), s.ps⟩ w p (.dK []) := Hid.start I.ok np
  refine hk ⟨s.H0, upd s.H p (.dK []), s.ps⟩ σ ⟨h0.ok, I.sl.heap⟩ _ fun u s1 st1 ok1 r1 => ?_
  have h1 := h0.step st1 ok1 rfl
  refine hv s1 σ ⟨ok1, (Rvs.heap I.sl).step st1⟩ _ fun v s2 st2 ok2 r2 => ?_
  have h2 := h1.step st2 ok2 rfl
  obtain rfl : u = .int i := r1
  refine ⟨h2.at_, [(.inl i, v)], rfl, by show 1 ≤ 15; decide, ?_⟩
  obtain ⟨g1, g2, g3⟩ := (h2.put (o' := .dK (mergeK [] [(.inl i, v)]))).show_
  exact q _ _ g1 g2 ⟨p, [v], rfl, upd_same, rfl, by simp, .one (r2.mono g3)⟩
/-- _law_word takes the lambda -/
theorem lamTo_word {f cT cN : Addr} {fd : FuncData} {q : Str} (F : FnA X.K "_law_word" "_law_word" s_l_word f fd) (hm : X.mg "_law_word" = some (.ref f)) (ke : Ke X.K X.mg cT cN) : LamTo X "_law_word" "_law_call" q (TTw cT cN) := by
  have hb : L2.Binds X.K fd ["_law_call"] [] := F.bindsN fun _ _ _ _ _ _ us hl => match us, hl with | [_], _ => rfl
  have kp := F.kp
  obtain ⟨oc, od, dV, kV, doc, pm, an, cdv, ct, osl, rfl, lk, hcd, _, _⟩ := F.ex
  exact ⟨f, _, _, _, dV, kV, doc, pm, cdv, ct, oc, an, od, osl, N_l_word, hm, kp, lk, hcd, hb, sc_l_word, rfl, .inl rfl, word_gives ke⟩
end
section
variable {P : Program} {W : World} {K : PySem.W.Frag} {mg : Str → Option Value} {base : Heap} {cl : Nat → Addr} {name qual : Str} {params : Arguments} {body : List Stmt} {scope : Scope} {f : Addr} {fd : FuncData} {N ps : List Str} {k : Nat}
/-- the name of a lambda in the def q -/
abbrev lamL (q : Str) : Str := (q ++ ".<locals>.") ++ "<lambda>"
theorem lam_name {cdv : Value} {A : Around} {outer : List PySem.Env} {s : Shared} {H : Hp} {E : XK} {f : Addr} : lamN (Xd P W K mg base N qual scope f cdv A outer s H E) = lamL qual := rfl
/-- a def whose code object is known -/
theorem FunD.okC {CX : CXT} {sp : Sp} {p : Str × Option Str} (F : FunD K name qual params body scope [] [] (He.fAd K p) fd) (S : FnScope N ps scope) (len : ∀ vs H Q E, sp vs H Q E → vs.length = ps.length)
    (hbody : ∀ (A : Around) (outer : List PySem.Env) (s : Shared) (H : Hp) (vs : List V) (Q : VK) (E : XK), Room k (A.deeper (envOfC qual scope s.heap.objs.size (He.fAd K p) (.ref (He.codeOf K p)))) → sp vs H Q E →
      ∃ t, PSs (cxOf CX P W K mg base N qual scope (He.fAd K p) (.ref (He.codeOf K p)) A outer s H E) body t ∧ t { nx := fun _ H' => Q .non H', rt := Q } (L2.start N vs) H) : FnOk P W K mg base CX (k + 1) (He.fAd K p) fd ps sp := by
  obtain ⟨oc, od, dV, kV, doc, pm, an, cdv, ct, osl, rfl, lk, hcd, _, _⟩ := F.ex
  obtain ⟨c, hc⟩ := He.codeIn_ref hcd
  have e := He.codeOf_eq lk hc
  subst hc
  rw [e] at hbody
  exact fn_of lk hcd S len fun A outer s H vs Q E hr hsp => hbody A outer s H vs Q E hr hsp
end
end FV
set_option Elab.async false
set_option linter.all false
set_option maxRecDepth 100000
set_option maxHeartbeats 4000000
/-! C(e, ..), the arguments drawn. -/
namespace FV
open PySem PySem.Spec PyProof.Rows L2 LamX
section
variable {cl : Nat → Addr} {X : Cx} {r : List Sl} {w : List Ow} {e : Expr} {pos p : Pos} {n : Str} {es : List Expr} {k c : Nat} {ps : List Str} {CX : CXT} {ι : Type}
def spIJ (K : PySem.W.Frag) (cl : Nat → Addr) (c : Nat) (ds : ι → List D) (pre : ι → Prop) (fs : List Str) (ys : ι → List D) : Sp := fun vs H Q E => ∃ i, spI K cl c (ds i) (pre i) fs (ys i) vs H Q E
theorem wq_make {F : D → Prop} {G : List D → Prop} {fs : List Str} {ds0 : ι → List D} {pre : ι → Prop} {ys : ι → List D} (M : KCal X.prog X.w X.K X.mg X.base CX k (cl c) n ps (spIJ X.K cl c ds0 pre fs ys)) (hr : Room (k + 1) X.A) (ha : WAq cl X r w (e :: es) G) (hp : ∀ ds, G ds → ∃ i, ds = ds0 i ∧ pre i ∧ F (.obj c fs (ys i))) {E : XK} (hx : Passes CX X E) (hg : Gl X n := by rfl) (hdb : (n == ("__debug__" : Str)) = false := by decide)
    (he : starEach (e :: es) X.env = (false, eval e X.env) :: starEach es X.env := by rfl) (hpl : (backTo pos (starEach es X.env)).any (·.1) = false := by rfl) : WQ cl X r w (.Call (.Name n p) (e :: es) [] pos) F := fun s σ I Q q => by
  obtain ⟨fI, fd, FI, gm, mk, hb⟩ := M
  refine ⟨_, pe_make mk FI hr hg gm hb .nil hx sA hdb he hpl, ha s σ I _ fun vs s1 ds st1 ok1 rs g x dx nx ndx hne => ?_⟩
  obtain ⟨ii, rfl, hpre, hF⟩ := hp ds g
  have hx0 := ok1.lk.nil nx
  have hdx0 := ok1.lk.nil ndx
  have hH : ∀ y, y ≠ x → y ≠ dx → upd (upd s1.H dx (.own x)) x (.ins (cl c) dx []) y = s1.H y := fun y h1 h2 => by rw [upd_ne h1, upd_ne h2]
  have hHs : ∀ y u, s1.H y = some u → y ≠ x ∧ y ≠ dx := fun y u h => ⟨ne_of_none h nx, ne_of_none h ndx⟩
  have l2 : Lk s1.H0 (upd (upd s1.H dx (.own x)) x (.ins (cl c) dx [])) := fun a u h => by
    have n1 : a ≠ x := ne_of_none h hx0
    have n2 : a ≠ dx := ne_of_none h hdx0
    rw [hH a n1 n2]
    exact ok1.lk a u h
  refine ⟨ii, ⟨s1.H0, upd (upd s1.H dx (.own x)) x (.ins (cl c) dx []), [some x]⟩, x, vs ++ [], rfl, rfl, rfl, ?_, by rw [List.append_nil]; exact rs, hpre, fun s' st' ok' => ⟨rfl, ?_⟩⟩
  · have one : ∀ {i : Nat} {q : Addr}, ([some x] : List (Option Addr))[i]? = some (some q) → i = 0 ∧ q = x := fun {i q} e => by
      have h1 := (List.getElem?_eq_some_iff.mp e).1
      simp only [List.length_singleton] at h1
      have : i = 0 := by omega
      subst this
      simp only [List.getElem?_cons_zero, Option.some.injEq] at e
      exact ⟨rfl, e.symm⟩
    refine ⟨l2, fun i j q e1 e2 => ?_, rfl, fun i q v e1 e2 => ?_, tb_app (ps := []) (w := []) (fun _ _ _ z => by simp at z) rfl fun p q e => by cases e⟩
    · rw [(one e1).1, (one e2).1]
    · obtain ⟨rfl, rfl⟩ := one e1
      simp only [List.getElem?_cons_zero, Option.some.injEq] at e2
      subst e2
      exact ⟨hx0, dx, [], upd_same, rfl, .nil⟩
  · have hps : s'.ps = [some x] := by
      obtain ⟨t, ht⟩ := st'.e3
      have h1 := ok'.len
      have ht : [some x] ++ t = s'.ps := ht
      rw [← ht] at h1 ⊢
      simp at h1
      rw [h1]
      rfl
    obtain ⟨h0, dx', us, g1, g2, g3⟩ := ok'.ow 0 x _ (by rw [hps]; rfl) rfl
    have keep : ∀ y u, s1.H y = some u → s'.H y = some u := fun y u h => by
      obtain ⟨n1, n2⟩ := hHs y u h
      refine st'.e1 y u ?_ (by simpa using n1)
      show upd (upd s1.H dx (.own x)) x _ y = _
      rw [hH y n1 n2]
      exact h
    have e2 : ∀ y u, upd s'.H0 x (.ins (cl c) dx' (fs.zip us)) y = some u → s1.H0 y = some u ∨ s1.H y = none := fun y u h => by
      by_cases zx : y = x
      · rw [zx]
        exact .inr nx
      · rw [upd_ne zx] at h
        rcases st'.e2 y u h with h | h
        · exact .inl h
        · have h : upd (upd s1.H dx (.own x)) x (.ins (cl c) dx []) y = none := h
          by_cases zd : y = dx
          · rw [zd]
            exact .inr ndx
          · rw [hH y zx zd] at h
            exact .inr h
    have e0 : Ex s1.H0 (upd s'.H0 x (.ins (cl c) dx' (fs.zip us))) := fun a u h => by
      rw [upd_ne (ne_of_none h hx0)]
      exact st'.e0 a u h
    refine q (.ref x) ⟨upd s'.H0 x (.ins (cl c) dx' (fs.zip us)), s'.H, s1.ps⟩ (.obj c fs (ys ii)) (st1.trans ⟨e0, fun y u h _ => keep y u h, e2, List.prefix_refl _, fun _ h => .inl h, fun y _ h => ?_⟩) ⟨fun a u h => ?_, ok1.nd, ok1.len, fun i qq v f1 f2 => ?_, ok1.tb⟩ ⟨x, dx', us, rfl, upd_same, g2, g3.mono (Ex.new h0)⟩ hF
    · obtain ⟨u, hu⟩ := Option.isSome_iff_exists.mp h
      show (s'.H y).isSome = true
      rw [keep y u hu]
      rfl
    · have h : upd s'.H0 x _ a = some u := h
      by_cases zx : a = x
      · rw [zx, upd_same] at h
        rw [zx]
        exact .inl (g1.trans h)
      · rw [upd_ne zx] at h
        exact ok'.lk a u h
    · obtain ⟨live1, live2⟩ := ok1.own (mem_ps f1)
      obtain ⟨o, ho⟩ := Option.isSome_iff_exists.mp live2
      refine (ok1.ow i qq v f1 f2).ext e0 (fun g => ?_) ((keep qq o ho).trans ho.symm)
      cases hh : upd s'.H0 x (.ins (cl c) dx' (fs.zip us)) qq with
      | none => exact hh
      | some o2 =>
        rcases e2 qq o2 hh with a | a
        · rw [g] at a
          cases a
        · rw [a] at ho
          cases ho
end
end FV
set_option Elab.async false
set_option linter.all false
set_option maxRecDepth 100000
set_option maxHeartbeats 4000000
/-! great_right. -/
namespace FV
open PySem PySem.Spec PyProof.Rows L2 LamX
theorem sh_str {n : Nat} {x : Str} (h : PyData.canLay0 (.str x) = true) : Sh n (.str x) := ⟨h, Nat.zero_le _⟩
theorem sh_two {n : Nat} {x : Str} {d : D} (h : Sh n d) (hx : PyData.canLay0 (.str x) = true := by decide +kernel) : Sh (n + 1) (.tup [.str x, d]) := sh_tup (by
  intro e he
  simp only [List.mem_cons, List.not_mem_nil, or_false] at he
  rcases he with rfl | rfl
  · exact sh_str hx
  · exact h)
def bigQ (n : Nat) : Pic := ⟨(1, 1), n, [(0, ([], [(1, 0)]))]⟩
theorem big_pc {n : Nat} (h1 : 1 ≤ n) (h2 : n ≤ 15) : Pc (bigQ n) := by
  refine ⟨⟨by show 1 ≤ 4; decide, by show 1 ≤ 4; decide⟩, h1, h2, ?_, by simp [bigQ], by simp [bigQ]⟩
  intro q hq
  have : q = (0, ([], [(1, 0)])) := by simpa [bigQ] using hq
  subst this
  refine ⟨Nat.zero_le _, ?_⟩
  have : ∀ m : Fin 16, 1 ≤ m.1 → formB (1, 1) m.1 0 ([], [(1, 0)]) = true := by decide +kernel
  exact this ⟨n, by omega⟩ h1
theorem big_pw {n : Nat} (h1 : 1 ≤ n) (h2 : n ≤ 15) : Pw (bigQ n) := ⟨big_pc h1 h2, by show (toldBlocks (bigQ n)).length ≤ 4; simp [toldBlocks, bigQ]⟩
theorem big_ten {n : Nat} (h1 : 11 ≤ n) (h2 : n ≤ 15) : BigTo (bigQ n) 10 := ⟨big_pw (by omega) h2, .inl ⟨by show 10 < n; omega, rfl⟩⟩
def bigB (n : Nat) : Bool := !(laidWithout (bigQ n) 0).isEmpty && decide (1000 < ((laidWithout (bigQ n) 0).map Ld.many).sum)
theorem big_run : bigB 6 = true ∧ bigB 7 = true ∧ bigB 8 = true := by decide +kernel
theorem big_thousand {n : Nat} (h1 : 6 ≤ n) (h2 : n ≤ 8) : BigTo (bigQ n) 1000 := by
  have h : bigB n = true := by
    obtain ⟨a, b, c⟩ := big_run
    have : n = 6 ∨ n = 7 ∨ n = 8 := by omega
    rcases this with rfl | rfl | rfl <;> assumption
  unfold bigB at h
  rw [Bool.and_eq_true] at h
  refine ⟨big_pw (by omega) (by omega), .inr ⟨by show n ≤ 10; omega, fun z => ?_, of_decide_eq_true h.2, rfl⟩⟩
  rw [z] at h
  exact absurd h.1 (by decide)
/-- great_right: true, whatever is drawn -/
def spG (K : PySem.W.Frag) (cl : Nat → Addr) (P : Addr) (q : Str) : Sp := fun vs H Q _ => ∃ (s : Sta) (t : Addr), vs = [.ref t] ∧ s.H = H ∧ s.ps = [some t, some P] ∧ Ok K cl s [.tape, .tb P q] ∧ ∀ H', Q (.bl true) H'
abbrev eBig (n : Nat) : D := ePic (bigQ n)
section
variable {P : Program} {W : World} {K : PySem.W.Frag} {mg : Str → Option Value} {base : Heap} {cl : Nat → Addr}
section
variable (P : Program) (W : World) (K : PySem.W.Frag) (mg : Str → Option Value) (base : Heap) (cl : Nat → Addr)
abbrev KJ_Picture : Prop := KCal P W K mg base CX0 5 (cl 1) "Picture" ["self", "view", "blocks", "told"] (spIJ (ι := Pic) K cl 1 (fun Q => [eP Q.view, eN Q.blocks, eD eT Q.told]) Pc ["view", "blocks", "told"] fun Q => [eP Q.view, eN Q.blocks, eD eT Q.told])
end
theorem ok_l_great_right {pg : Str × Option Str} {fd fdw : FuncData} {fw cT cN Pt : Addr} (B : Bl mg) (kf : Kf K cl) (ke : Ke K mg cT cN) (TB : TabB base mg (He.codeOf K pg) Pt) (Fw : FnA K "_law_word" "_law_word" s_l_word fw fdw) (gw : mg "_law_word" = some (.ref fw)) (C1 : C_pick P W K mg base cl) (C2 : K_Picture P W K mg base cl) (C5 : KJ_Picture P W K mg base cl) (C3 : R_nearest P W K mg base cl cT) (C4 : R_least_wrong P W K mg base cl cT)
    (F : FnA K "_law_great_right" "_law_great_right" s_l_great_right (He.fAd K pg) fd) : FnOk P W K mg base CX0 20 (He.fAd K pg) fd ["_law_tape_here"] (spG K cl Pt (lamL "_law_great_right")) := by
  refine FunD.okC F sc_l_great_right (fun vs H Q E h => ?_) (fun A outer s H vs Q E hr h => ?_)
  · obtain ⟨_, _, rfl, _⟩ := h
    rfl
  · obtain ⟨s0, t, rfl, rfl, hps, ok, hQ⟩ := h
    refine ⟨_, PSs.nox sSs, ?_⟩
    suffices key : WSs cl (Xd P W K mg base N_l_great_right "_law_great_right" (defScope s_l_great_right) (He.fAd K pg) (.ref (He.codeOf K pg)) A outer s s0.H E) 2 [.o 0, .u, .u, .u] [.tape, .tb Pt (lamL "_law_great_right")] (defBody s_l_great_right) { nx := fun _ _ => False, rt := fun x _ => x = .d (.bl true) } by
      refine key s0 s0 (L2.start N_l_great_right [.ref t]) _ (by rw [hps]; rfl) (.refl s0) ⟨ok, ?_⟩ ⟨?_, ?_, ?_, ?_⟩
      · exact ⟨some (.ref t), _, rfl, ⟨t, by rw [hps]; rfl, rfl⟩, (Rvs.us 3 none : Rvs cl s0 [.u, .u, .u] [none, none, none])⟩
      · exact fun _ _ _ _ _ _ h => h.elim
      · intro s1 v x1 w1 st1 ok1 rv e
        subst e
        obtain ⟨u, e1, e2⟩ := rv
        cases e1
        obtain rfl : v = .bl true := e2
        exact hQ _
      · exact fun _ _ _ _ _ _ h => h.elim
      · exact fun _ _ _ _ _ _ h => h.elim
    have hx : Room 19 (Xd P W K mg base N_l_great_right "_law_great_right" (defScope s_l_great_right) (He.fAd K pg) (.ref (He.codeOf K pg)) A outer s s0.H E).A := hr
    have to : LamTo (Xd P W K mg base N_l_great_right "_law_great_right" (defScope s_l_great_right) (He.fAd K pg) (.ref (He.codeOf K pg)) A outer s s0.H E) "_law_word" "_law_call" (lamN (Xd P W K mg base N_l_great_right "_law_great_right" (defScope s_l_great_right) (He.fAd K pg) (.ref (He.codeOf K pg)) A outer s s0.H E)) (TTw cT cN) := lamTo_word Fw gw ke
    refine wss_cons (ws_setq 1 sc_l_great_right.nd (wq_addN (i := 11) (wp_k 11) (wq_pick (i := 0) (m := 5) C1 hx (by omega) rfl rfl (wp_k 5) (by omega) (by omega) pass0)) ?_)
    rintro d ⟨j, rfl, hj⟩
    have b1 : BigTo (bigQ (11 + j)) 10 := big_ten (by omega) (by omega)
    refine wss_cons (ws_setp 2 sc_l_great_right.nd (d := eBig (11 + j)) (wp_make (C2 (bigQ (11 + j))) (hx.mono (by omega : 5 + 1 ≤ 19)) (wa_cons (wp_tup (ds := [eN 1, eN 1]) (wa_cons (wp_k 1) (wa_cons (wp_k 1) wa_nil)) (by show 2 ≤ 100000; decide)) (wa_cons (wp_v 1) (wa_cons (wp_dict1 (i := ((0 : Nat) : Int)) (d := eT ([], [(1, 0)])) (wp_k 0) (wp_tup (ds := [.tup [], .tup [eP (1, 0)]]) (wa_cons (wp_tup (ds := []) wa_nil (by decide)) (wa_cons (wp_tup (ds := [eP (1, 0)]) (wa_cons (wp_tup (ds := [eN 1, eN 0]) (wa_cons (wp_k 1) (wa_cons (wp_k 0) wa_nil)) (by show 2 ≤ 100000; decide)) wa_nil) (by show 1 ≤ 100000; decide)) wa_nil)) (by show 2 ≤ 100000; decide))) wa_nil))) b1.1.pc pass0) ?_)
    refine wss_cons (ws_if (t := false) (wt_is (wt_neD (x := .tup [.str "many", eN 10]) (y := .tup [.str "many", eN 10]) (bb := true) hx (wp_wordT (cT := cT) (cN := cN) (j := 1) (k := 10) (m := 10) (by rw [lam_name]; rfl) to TB rfl (hx.mono (by omega)) (lamS_by (sc := defScope s_l_great_right) (by decide +kernel)) fun A outer s H E f c' hr2 s0 hE => wpr_call (C3 (bigQ (11 + j)) 10) hr2 (Nat.le_refl _) (takes_of rfl rfl rfl rfl) hE (wa_cons (wp_v 2) wa_nil) b1) (wp_tup (ds := [.str "many", eN 10]) (wa_cons wp_str (wa_cons (wp_k 10) wa_nil)) (by show 2 ≤ 100000; decide)) (sh_two sh_int) (sh_two sh_int) (by decide +kernel)) rfl) (fun z => by cases z) fun _ => wss_nil ?_)
    refine wss_cons (ws_if (t := false) (wt_is (wt_neD (x := .tup [.str "many", eN 10]) (y := .tup [.str "many", eN 10]) (bb := true) hx (wp_wordT (cT := cT) (cN := cN) (j := 1) (k := 10) (m := 10) (by rw [lam_name]; rfl) to TB rfl (hx.mono (by omega)) (lamS_by (sc := defScope s_l_great_right) (by decide +kernel)) fun A outer s H E f c' hr2 s0 hE => wpr_call (C4 (bigQ (11 + j)) 10) hr2 (Nat.le_refl _) (takes_of rfl rfl rfl rfl) hE (wa_cons (wp_v 2) wa_nil) b1) (wp_tup (ds := [.str "many", eN 10]) (wa_cons wp_str (wa_cons (wp_k 10) wa_nil)) (by show 2 ≤ 100000; decide)) (sh_two sh_int) (sh_two sh_int) (by decide +kernel)) rfl) (fun z => by cases z) fun _ => wss_nil ?_)
    refine wss_cons (ws_setq 3 sc_l_great_right.nd (F := fun x => ∃ n, 6 ≤ n ∧ n ≤ 8 ∧ x = eBig n) (wq_make C5 (hx.mono (by omega : 5 + 1 ≤ 19)) (waq_cons (F := fun x => x = eP (1, 1)) (wq_p (wp_tup (ds := [eN 1, eN 1]) (wa_cons (wp_k 1) (wa_cons (wp_k 1) wa_nil)) (by show 2 ≤ 100000; decide)) rfl) (waq_cons (wq_addN (i := 6) (wp_k 6) (wq_pick (i := 0) (m := 3) C1 hx (by omega) rfl rfl (wp_k 3) (by omega) (by omega) pass0)) (waq_cons (F := fun x => x = eD eT [(0, ([], [(1, 0)]))]) (wq_p (wp_dict1 (i := ((0 : Nat) : Int)) (d := eT ([], [(1, 0)])) (wp_k 0) (wp_tup (ds := [.tup [], .tup [eP (1, 0)]]) (wa_cons (wp_tup (ds := []) wa_nil (by decide)) (wa_cons (wp_tup (ds := [eP (1, 0)]) (wa_cons (wp_tup (ds := [eN 1, eN 0]) (wa_cons (wp_k 1) (wa_cons (wp_k 0) wa_nil)) (by show 2 ≤ 100000; decide)) wa_nil) (by show 1 ≤ 100000; decide)) wa_nil)) (by show 2 ≤ 100000; decide))) rfl) waq_nil))) ?_ pass0) ?_)
    · rintro ds ⟨x, t, rfl, rfl, x2, t2, rfl, ⟨j2, rfl, hj2⟩, x3, t3, rfl, rfl, rfl⟩
      exact ⟨bigQ (6 + j2), rfl, big_pc (by omega) (by omega), 6 + j2, by omega, by omega, rfl⟩
    rintro d ⟨n, h6, h8, rfl⟩
    have b2 : BigTo (bigQ n) 1000 := big_thousand h6 h8
    refine wss_cons (ws_if (t := false) (wt_is (wt_neD (x := .tup [.str "many", eN 1000]) (y := .tup [.str "many", eN 1000]) (bb := true) hx (wp_wordT (cT := cT) (cN := cN) (j := 1) (k := 10) (m := 1000) (by rw [lam_name]; rfl) to TB rfl (hx.mono (by omega)) (lamS_by (sc := defScope s_l_great_right) (by decide +kernel)) fun A outer s H E f c' hr2 s0 hE => wpr_call (C4 (bigQ n) 1000) hr2 (Nat.le_refl _) (takes_of rfl rfl rfl rfl) hE (wa_cons (wp_v 3) wa_nil) b2) (wp_tup (ds := [.str "many", eN 1000]) (wa_cons wp_str (wa_cons (wp_k 1000) wa_nil)) (by show 2 ≤ 100000; decide)) (sh_two sh_int) (sh_two sh_int) (by decide +kernel)) rfl) (fun z => by cases z) fun _ => wss_nil ?_)
    refine wss_one (ws_ret (wp_eqD (x := .tup [.str "many", eN 1000]) (y := .tup [.str "many", eN 1000]) (bb := true) hx (wp_wordT (cT := cT) (cN := cN) (j := 1) (k := 10) (m := 1000) (by rw [lam_name]; rfl) to TB rfl (hx.mono (by omega)) (lamS_by (sc := defScope s_l_great_right) (by decide +kernel)) fun A outer s H E f c' hr2 s0 hE => wpr_call (C3 (bigQ n) 1000) hr2 (Nat.le_refl _) (takes_of rfl rfl rfl rfl) hE (wa_cons (wp_v 3) wa_nil) b2) (wp_tup (ds := [.str "many", eN 1000]) (wa_cons wp_str (wa_cons (wp_k 1000) wa_nil)) (by show 2 ≤ 100000; decide)) (sh_two sh_int) (sh_two sh_int) (by decide +kernel)) rfl)
end
end FV
set_option Elab.async false
set_option linter.all false
set_option maxRecDepth 100000
set_option maxHeartbeats 4000000
/-! law: its tape, its call of great_right. -/
namespace FV
open PySem PySem.Spec PyProof.Rows L2 LamX
/-- the tape of the law's own script -/
def spTp (K : PySem.W.Frag) (cl : Nat → Addr) : Sp := fun vs H Q _ => ∃ (s : Sta) (a : Addr) (ns : List Int), vs = [.ref a] ∧ s.H = H ∧ s.ps = [] ∧ Lk s.H0 s.H ∧ SqL K H a (ns.map V.int) ∧ ∀ p s', Step s s' → s'.ps = [some p] → Ok K cl s' [.tape] → Q (.ref p) s'.H
section
variable {P : Program} {W : World} {K : PySem.W.Frag} {mg : Str → Option Value} {base : Heap} {cl : Nat → Addr}
theorem ok_l_tapeS {f : Addr} {fd : FuncData} (B : Bl mg) (F : FnA K "_law_tape" "_law_tape" s_l_tape f fd) : FnOk P W K mg base CX0 1 f fd ["_law_script"] (spTp K cl) := by
  refine F.ok sc_l_tape (fun vs H Q E h => ?_) (fun cdv A outer s H vs Q E hr h => ?_)
  · obtain ⟨_, _, _, rfl, _⟩ := h
    rfl
  · obtain ⟨s0, a, ns, rfl, rfl, hps, lk, hS, hQ⟩ := h
    refine ⟨_, PSs.nox (pss_one (ps_ret (pe_lst (pa_cons (pe_callTy call_list_of rfl B.list (by decide +kernel) (pa_cons (pe_var (i := 0) rfl (.inl rfl)) pa_nil)) (pa_cons pe_int (pa_cons pe_int (pa_cons pe_int (pa_cons pe_int pa_nil)))))))), ?_⟩
    refine ⟨.ref a, rfl, a, ns.map V.int, rfl, .inl hS, fun l hl => ⟨by show 5 ≤ sizeLine; decide, fun p hp => ?_⟩⟩
    have ok0 : Ok K cl s0 [] := Ok.none hps lk
    have st1 := Step.add (o := .lst (ns.map V.int)) ok0.lk hl
    have ok1 := ok0.add (o := .lst (ns.map V.int)) hl
    refine hQ p ⟨(s0.add l (.lst (ns.map V.int))).H0, upd (s0.add l (.lst (ns.map V.int))).H p (.lst [.ref l, .int 0, .int 0, .int 1, .int 0]), (s0.add l (.lst (ns.map V.int))).ps ++ [some p]⟩ (st1.own_new hp) ?_ ?_
    · show s0.ps ++ [some p] = _
      rw [hps]
      rfl
    · exact ok1.own_new (u := .tape) hp ⟨ok1.lk.nil hp, l, ns, 0, 0, 1, 0, upd_same, upd_same, Int.le_refl _, Int.le_refl _⟩
end
end FV
set_option Elab.async false
set_option linter.all false
set_option maxRecDepth 100000
set_option maxHeartbeats 4000000
/-! law: its frame. -/
namespace FV
open PySem PySem.Spec PyProof.Rows L2 LamX
theorem two_in {K : PySem.W.Frag} {cl : Nat → Addr} {s : Sta} {w : List Ow} (ok : Ok K cl s w) {i j : Nat} {p q : Addr} {u v : Ow} (hij : i ≠ j) (hp : s.ps[i]? = some (some p)) (hq : s.ps[j]? = some (some q)) (hu : w[i]? = some u) (hv : w[j]? = some v) : Ok K cl ⟨s.H0, s.H, [some p, some q]⟩ [u, v] := by
  have hne : p ≠ q := fun e => hij (ok.nd i j p hp (by rw [e]; exact hq))
  have look : ∀ {n : Nat} {a : Addr}, ([some p, some q] : List (Option Addr))[n]? = some (some a) → (n = 0 ∧ a = p) ∨ (n = 1 ∧ a = q) := fun {n a} e => by
    match n, e with
    | 0, e => exact .inl ⟨rfl, by simpa using e.symm⟩
    | 1, e => exact .inr ⟨rfl, by simpa using e.symm⟩
    | n + 2, e => simp at e
  refine ⟨ok.lk, fun m n a e1 e2 => ?_, rfl, fun n a o e1 e2 => ?_, fun n a x e => ?_⟩
  · rcases look e1 with ⟨rfl, rfl⟩ | ⟨rfl, rfl⟩ <;> rcases look e2 with ⟨rfl, h⟩ | ⟨rfl, h⟩
    · rfl
    · exact absurd h hne
    · exact absurd h.symm hne
    · rfl
  · rcases look e1 with ⟨rfl, rfl⟩ | ⟨rfl, rfl⟩
    · simp only [List.getElem?_cons_zero, Option.some.injEq] at e2
      subst e2
      exact ok.ow i _ _ hp hu
    · simp only [List.getElem?_cons_succ, List.getElem?_cons_zero, Option.some.injEq] at e2
      subst e2
      exact ok.ow j _ _ hq hv
  · match n, e with
    | 0, e =>
      simp only [List.getElem?_cons_zero, Option.some.injEq] at e
      subst e
      have := ok.tb i a x hu
      rw [hp] at this
      cases this
      rfl
    | 1, e =>
      simp only [List.getElem?_cons_succ, List.getElem?_cons_zero, Option.some.injEq] at e
      subst e
      have := ok.tb j a x hv
      rw [hq] at this
      cases this
      rfl
    | n + 2, e => simp at e
end FV
set_option Elab.async false
set_option linter.all false
set_option maxRecDepth 100000
set_option maxHeartbeats 4000000
/-! d[k] = a drawn value; draws at the end. -/
namespace FV
open PySem PySem.Spec PyProof.Rows L2 LamX
section
variable {cl : Nat → Addr} {X : Cx} {r : List Sl} {w : List Ow} {e a b c tg : Expr} {d x y z : D} {pos p p2 : Pos} {n : Str} {es : List Expr} {ds : List D} {k m : Nat}
theorem ws_dputq {kk m : Nat} {F : Ph} {T : D → Prop} (i : Nat) {nn : Nat} {l : List (Int × D)} {j : Int} {pos' : Pos} (hR : Room kk X.A) (hr : r[i]? = some (.o nn)) (hw : w[nn]? = some (.dic (l.map (·.1)) (l.map (·.2)))) (hv : WQ cl X r w e T) (hk : WP cl X r w b (.int j)) (hl : l.length < 100000) (k : ∀ d, T d → F.nx r (w.set nn (.dic ((aput j d l).map (·.1)) ((aput j d l).map (·.2))))) (hN : X.N[i]? = some n := by rfl) (hvis : Vis X.env.scope n := by first | exact Or.inl rfl | exact Or.inr (Or.inl rfl))
    (hd : (n == ("__debug__" : Str)) = false := by decide) (hcd : (n == ("__classdict__" : Str)) = false := by decide) (hs : swapsWith e (some (.Subscript (.Name n p) b pos')) pos.line X.env = pure false := by rfl) :
    WS cl X m r w (.Assign [.Subscript (.Name n p) b pos'] e pos) F := fun B s σ D hm st I C => by
  obtain ⟨v, e1, p0, e2, e3⟩ := I.sl.get hr
  subst e3
  refine ⟨_, ps_dput (hu_of hR) (pe_var hN hvis hd hcd) sE sE hs, hv s σ I _ fun u s1 d st1 ok1 r1 hT => ⟨_, e1, ?_⟩⟩
  refine hk s1 σ (I.step st1 ok1) _ fun kv s2 st2 ok2 r2 => ?_
  obtain rfl : kv = .int j := r2
  have hps : s2.ps = s.ps := ps_same (st1.trans st2) I.ok ok2 rfl
  have e4 : s2.ps[nn]? = some (some p0) := by rw [hps]; exact e2
  obtain ⟨h0, vs, g1, g2, g3, g4⟩ := ok2.own_at e4 hw
  obtain ⟨us, q1, q2⟩ := putK_kvs (k := j) (r1.mono st2.e0) g3 g4
  have hlen : (kvs (l.map (·.1)) vs).length < sizeLine := by
    have := g4.length
    have : (kvs (l.map (·.1)) vs).length = l.length := by
      simp [kvs] at this ⊢
      omega
    rw [this]
    exact Nat.lt_trans hl (by decide)
  refine ⟨p0, _, rfl, DPut.k (k := Sum.inl j) g1 hlen, ?_⟩
  rw [q1]
  refine C.nx ⟨s2.H0, upd s2.H p0 (.dK (kvs ((aput j d l).map (·.1)) us)), s2.ps⟩ σ r _ (((st.trans st1).trans st2).own_set (st.e4 p0 (mem_ps e2))) ⟨ok2.own_set (u := .dic ((aput j d l).map (·.1)) ((aput j d l).map (·.2))) e4 ⟨h0, us, upd_same, ?_, aput_nodup g3, q2⟩, ((I.sl.step st1).step st2).heap⟩ (k d hT)
  rw [List.length_map, List.length_map]
end
end FV
set_option Elab.async false
set_option linter.all false
set_option maxRecDepth 100000
set_option maxHeartbeats 4000000
/-! law: what it tells stays a right picture. -/
namespace FV
open PySem PySem.Spec PyProof.Rows L2 LamX
def putN (k : Nat) (x : Tel) : List (Nat × Tel) → List (Nat × Tel)
  | [] => [(k, x)]
  | (j, y) :: l => if j = k then (j, x) :: l else (j, y) :: putN k x l
abbrev iT (l : List (Nat × Tel)) : List (Int × D) := l.map fun q => ((q.1 : Int), eT q.2)
theorem aput_iT (k : Nat) (t : Tel) : ∀ l : List (Nat × Tel), aput (k : Int) (eT t) (iT l) = iT (putN k t l)
  | [] => rfl
  | (j, y) :: l => by
    show (if (j : Int) = (k : Int) then _ else _) = _
    unfold putN
    by_cases h : j = k
    · rw [if_pos (by omega), if_pos h]
      rfl
    · rw [if_neg (by omega), if_neg h, aput_iT k t l]
      rfl
theorem putN_keys {k : Nat} {t : Tel} : ∀ {l : List (Nat × Tel)}, k ∈ l.map (·.1) → (putN k t l).map (·.1) = l.map (·.1)
  | [], h => by cases h
  | (j, y) :: l, h => by
    unfold putN
    by_cases e : j = k
    · rw [if_pos e]
      rfl
    · rw [if_neg e, List.map_cons, List.map_cons, putN_keys (l := l)]
      rcases List.mem_cons.mp h with z | z
      · exact absurd z.symm e
      · exact z
theorem putN_mem {k : Nat} {t : Tel} {q : Nat × Tel} : ∀ {l : List (Nat × Tel)}, q ∈ putN k t l → q ∈ l ∨ q = (k, t)
  | [], h => .inr (by simpa [putN] using h)
  | (j, y) :: l, h => by
    unfold putN at h
    by_cases e : j = k
    · rw [if_pos e] at h
      rcases List.mem_cons.mp h with z | z
      · exact .inr (by rw [z, e])
      · exact .inl (List.mem_cons_of_mem _ z)
    · rw [if_neg e] at h
      rcases List.mem_cons.mp h with z | z
      · exact .inl (by rw [z]; exact List.mem_cons_self)
      · rcases putN_mem z with y | y
        · exact .inl (List.mem_cons_of_mem _ y)
        · exact .inr y
theorem pc_put {v : Nat × Nat} {n k : Nat} {t : Tel} {tl : List (Nat × Tel)} (h : Pc ⟨v, n, tl⟩) (hk : k ∈ tl.map (·.1)) (hf : formB v n k t = true) : Pc ⟨v, n, putN k t tl⟩ := by
  refine ⟨h.view, h.one, h.most, fun q hq => ?_, ?_, ?_⟩
  · rcases putN_mem hq with z | z
    · exact h.form q z
    · subst z
      obtain ⟨q, hq, e⟩ := List.mem_map.mp hk
      have := (h.form q hq).1
      rw [e] at this
      exact ⟨this, hf⟩
  · show ((putN k t tl).map (·.1)).Pairwise (· < ·)
    rw [putN_keys hk]
    exact h.asc
  · show 0 ∈ (putN k t tl).map (·.1)
    rw [putN_keys hk]
    exact h.head
theorem pc_told {n : Nat} {h lost : List Nat} {v : Nat × Nat} (hTF : TelForm) (hh : h ∈ lTrees n) (h1 : 1 ≤ n) (h4 : n ≤ 4) (hv1 : v.1 ≤ 3) (hv2 : v.2 ≤ 3) (h0 : 0 ∉ lost) : Pc ⟨v, n, toldOf h v lost⟩ := by
  obtain ⟨hl, _⟩ := tree_mem hh
  have hm : ∀ q ∈ toldOf h v lost, ∃ p, p ≤ n ∧ q = (p, lTel h v p) := fun q hq => by
    unfold toldOf at hq
    obtain ⟨p, hp, rfl⟩ := List.mem_map.mp hq
    have := List.mem_range.mp (List.mem_filter.mp hp).1
    exact ⟨p, by omega, rfl⟩
  have hkeys : (toldOf h v lost).map (·.1) = (List.range (h.length + 1)).filter fun p => !lost.contains p := by
    unfold toldOf
    rw [List.map_map]
    exact List.map_id _
  refine ⟨⟨by show v.1 ≤ 4; omega, by show v.2 ≤ 4; omega⟩, h1, by show n ≤ 15; omega, fun q hq => ?_, ?_, ?_⟩
  · obtain ⟨p, hp, rfl⟩ := hm q hq
    exact ⟨hp, hTF n h v p hh h1 h4 hv1 hv2 hp⟩
  · show ((toldOf h v lost).map (·.1)).Pairwise (· < ·)
    rw [hkeys]
    exact List.Pairwise.filter _ List.pairwise_lt_range
  · show 0 ∈ (toldOf h v lost).map (·.1)
    rw [hkeys]
    simp [h0]
end FV
set_option Elab.async false
set_option linter.all false
set_option maxRecDepth 100000
set_option maxHeartbeats 4000000
/-! law: one turn. -/
namespace FV
open PySem PySem.Spec PyProof.Rows L2 LamX
/-- what the mathematics owes law -/
structure LawM : Prop where
  tf : TelForm
  near : ∀ Q : Pic, Pc Q → Q.blocks ≤ 4 → Q.view.1 ≤ 3 → Q.view.2 ≤ 3 → NearOk Q ∧ (leastOf Q, nearOf Q) = lDue (lTrees Q.blocks) Q.view Q.told
  mend : ∀ (Q : Pic) (h : List Nat), Pc Q → Q.blocks ≤ 4 → Q.view.1 ≤ 3 → Q.view.2 ≤ 3 → mendedOf Q = some h → h ∈ (lDue (lTrees Q.blocks) Q.view Q.told).2
  tree : ∀ (n : Nat) (h : List Nat), 1 ≤ n → n ≤ 4 → h ∈ lTrees n → Tr h ∧ ∀ b, 1 ≤ b → b ≤ h.length → hangAt h b ≠ b
  tel : ∀ (n : Nat) (h : List Nat) (v : Nat × Nat) (p : Nat), 1 ≤ n → n ≤ 4 → h ∈ lTrees n → v.1 ≤ 3 → v.2 ≤ 3 → p ≤ n → rawTel h v p = lTel h v p
/-- law's callees -/
structure LawC (P : Program) (W : World) (K : PySem.W.Frag) (mg : Str → Option Value) (base : Heap) (cl : Nat → Addr) (cT cN : Addr) : Prop where
  b : Bl mg
  kf : Kf K cl
  ke : Ke K mg cT cN
  pick : C_pick P W K mg base cl
  any : C_any P W K mg base cl
  lot : C_lot P W K mg base cl
  trees : C_trees P W K mg base cl
  told : C_told P W K mg base cl
  telling : C_telling P W K mg base cl
  other : C_other P W K mg base cl
  due : C_due P W K mg base cl
  pict : K_Picture P W K mg base cl
  tree : K_Tree P W K mg base cl
  least : C_least_wrong P W K mg base cl
  near : C_nearest P W K mg base cl
  mended : C_mended P W K mg base cl
  wr : C_wrong P W K mg base cl
  wrR : R_wrong P W K mg base cl cN
  word : ∃ f fd, FnA K "_law_word" "_law_word" s_l_word f fd ∧ mg "_law_word" = some (.ref f)
def lawFor : Stmt := (defBody s_law).getD 1 (.Pass ⟨0, 0, 0, 0⟩)
def turnB : List Stmt := match lawFor with
  | .For _ _ b _ _ => b
  | _ => []
abbrev rLaw : List Sl := .u :: .o 2 :: List.replicate 16 .u
abbrev wLaw (Pl Pg : Addr) (t : List Ow) : List Ow := .tb Pl (lamL "law") :: .tb Pg (lamL "_law_great_right") :: .tape :: t
section
variable {P : Program} {W : World} {K : PySem.W.Frag} {mg : Str → Option Value} {base : Heap} {cl : Nat → Addr} {cT cN : Addr}
abbrev XLaw (P : Program) (W : World) (K : PySem.W.Frag) (mg : Str → Option Value) (base : Heap) (f : Addr) (cdv : Value) (A : Around) (outer : List PySem.Env) (s : Shared) (H : Hp) (E : XK) : Cx := Xd P W K mg base N_law "law" (defScope s_law) f cdv A outer s H E
theorem law_head (C : LawC P W K mg base cl cT cN) (M : LawM) {f : Addr} {cdv : Value} {A : Around} {outer : List PySem.Env} {s : Shared} {H : Hp} {E : XK} (hx : Room 21 (XLaw P W K mg base f cdv A outer s H E).A) (Pl Pg : Addr) (t : List Ow) (x2 : D) {F : Ph}
    (k : ∀ (n : Nat) (v : Nat × Nat) (hg : List Nat) (lost : List Nat), 1 ≤ n → n ≤ 4 → v.1 ≤ 3 → v.2 ≤ 3 → hg ∈ lTrees n → 0 ∉ lost → WSs cl (XLaw P W K mg base f cdv A outer s H E) 3 (.u :: .o 2 :: .d x2 :: .d (eN n) :: .d (eP v) :: .d (.lst ((lTrees n).map eNs)) :: .d (eNs hg) :: .o (t.length + 3) :: List.replicate 10 .u) (wLaw Pl Pg (t ++ [.dic ((toldOf hg v lost).map fun q => (q.1 : Int)) ((toldOf hg v lost).map fun q => eT q.2)])) (turnB.drop 5) F) :
    WSs cl (XLaw P W K mg base f cdv A outer s H E) 3 (rLaw.set 2 (.d x2)) (wLaw Pl Pg t) turnB F := by
  refine wss_cons (ws_setq 3 sc_law.nd (F := fun x => ∃ n, x = eN n ∧ 1 ≤ n ∧ n ≤ 4) (wq_mono (wq_addN (i := 1) (P := fun j => j ≤ 3) (wp_k 1) (wq_mono (wq_tape (i := 1) (F := fun x => x ∈ [eN 0, eN 1, eN 2, eN 2, eN 3, eN 3]) C.any hx (by omega) rfl rfl (one_q (F := fun x => x = .lst [eN 0, eN 1, eN 2, eN 2, eN 3, eN 3]) (wq_p (wp_lst (ds := [eN 0, eN 1, eN 2, eN 2, eN 3, eN 3]) (wa_cons (wp_k 0) (wa_cons (wp_k 1) (wa_cons (wp_k 2) (wa_cons (wp_k 2) (wa_cons (wp_k 3) (wa_cons (wp_k 3) wa_nil)))))) (by show 6 ≤ 100000; decide)) rfl)) ?_ pass0) ?_)) ?_) ?_)
  · rintro ds ⟨x, e1, e2⟩
    subst e1 e2
    exact ⟨⟨_, rfl, by show 1 ≤ 6; decide, by show 6 ≤ 100000; decide⟩, fun y hy => hy _ rfl⟩
  · intro d hd
    simp only [List.mem_cons, List.not_mem_nil, or_false] at hd
    rcases hd with rfl | rfl | rfl | rfl | rfl | rfl
    · exact ⟨0, rfl, by omega⟩
    · exact ⟨1, rfl, by omega⟩
    · exact ⟨2, rfl, by omega⟩
    · exact ⟨2, rfl, by omega⟩
    · exact ⟨3, rfl, by omega⟩
    · exact ⟨3, rfl, by omega⟩
  · rintro d ⟨j, rfl, hj⟩
    exact ⟨1 + j, rfl, by omega, by omega⟩
  rintro d ⟨n, rfl, hn1, hn4⟩
  refine wss_cons (ws_setq 4 sc_law.nd (F := fun x => ∃ v : Nat × Nat, x = eP v ∧ v.1 ≤ 3 ∧ v.2 ≤ 3) (wq_mono (wq_tup (waq_cons (wq_pick (i := 1) (m := 4) C.pick hx (by omega) rfl rfl (wp_k 4) (by omega) (by omega) pass0) (waq_cons (wq_pick (i := 1) (m := 4) C.pick hx (by omega) rfl rfl (wp_k 4) (by omega) (by omega) pass0) waq_nil)) ?_) ?_) ?_)
  · rintro ds ⟨x, t, rfl, _, x2, t2, rfl, _, rfl⟩
    show 2 ≤ 100000
    decide
  · rintro d ⟨ds, rfl, x, t, rfl, ⟨j1, rfl, h1⟩, x2, t2, rfl, ⟨j2, rfl, h2⟩, rfl⟩
    exact ⟨(j1, j2), rfl, by show j1 ≤ 3; omega, by show j2 ≤ 3; omega⟩
  rintro d ⟨v, rfl, hv1, hv2⟩
  refine wss_cons (ws_setp 5 sc_law.nd (wp_px (C.trees n) hx (by omega) (wa_cons (wp_v 3) wa_nil) hn4 pass0) ?_)
  have htp := trees_pos hn4
  have hts := trees_small hn4
  refine wss_cons (ws_setq 6 sc_law.nd (F := fun x => ∃ g ∈ lTrees n, x = eNs g) (wq_mono (wq_tape (i := 1) (F := fun x => x ∈ (lTrees n).map eNs) C.any hx (by omega) rfl rfl (one_q (F := fun x => x = .lst ((lTrees n).map eNs)) (wq_p (wp_v 5) rfl)) ?_ pass0) ?_) ?_)
  · rintro ds ⟨x, e1, e2⟩
    subst e1 e2
    refine ⟨⟨_, rfl, ?_, ?_⟩, fun y hy => hy _ rfl⟩
    · rw [List.length_map]
      exact htp
    · rw [List.length_map]
      omega
  · intro d hd
    obtain ⟨g, hg, rfl⟩ := List.mem_map.mp hd
    exact ⟨g, hg, rfl⟩
  rintro d ⟨hg, hgm, rfl⟩
  obtain ⟨g1, g2⟩ := tree_mem hgm
  refine wss_cons (ws_setO 7 sc_law.nd C.told hx (by omega) (waq_cons (F := fun x => x = eNs hg) (wq_p (wp_v 6) rfl) (waq_cons (F := fun x => x = eP v) (wq_p (wp_v 4) rfl) (waq_cons (F := fun x => ∃ lost, x = eNs lost ∧ 0 ∉ lost) (wq_mono (wq_tape (i := 1) (F := fun x => ∃ lost, x = eNs lost ∧ ∀ y ∈ lost, y ∈ blocksOf n) C.lot hx (by omega) rfl rfl (waq_cons (F := fun x => x = lNs (blocksOf n)) (wq_p (wp_listRg (i := n) (pr := ⟨0, 0, 0, 0⟩) C.b rfl (wp_k 1) (wp_is (wp_addN (wp_v 3) (wp_k 1)) rfl) (by omega)) rfl) (waq_cons (wq_pick (i := 1) (m := 3) C.pick hx (by omega) rfl rfl (wp_k 3) (by omega) (by omega) pass0) waq_nil)) ?_ pass0) ?_) waq_nil))) ?_ pass0)
  · rintro ds ⟨x, t, rfl, rfl, x2, t2, rfl, ⟨j, rfl, _⟩, rfl⟩
    refine ⟨⟨blocksOf n, j, rfl, by simp [blocksOf]; omega⟩, fun y hy => ?_⟩
    obtain ⟨m, e1, e2⟩ := hy (blocksOf n) j rfl
    exact ⟨m, e1, e2⟩
  · rintro d ⟨lost, rfl, hl⟩
    refine ⟨lost, rfl, fun h0 => ?_⟩
    have := hl 0 h0
    simp [blocksOf] at this
  · rintro ds ⟨x, t, rfl, rfl, x2, t2, rfl, rfl, x3, t3, rfl, ⟨lost, rfl, h0⟩, rfl⟩
    refine ⟨⟨hg, v, lost, rfl, ⟨fun x hx => by rw [g1]; exact g2 x hx, by omega⟩, by omega, by omega⟩, ?_⟩
    rintro u ⟨h', v', lost', e1, rfl⟩
    simp only [List.cons.injEq, and_true] at e1
    obtain ⟨a1, a2, a3⟩ := e1
    have b1 := eNs_inj a1
    have b2 := eP_inj a2
    have b3 := eNs_inj a3
    subst b1 b2 b3
    exact k n v hg lost hn1 hn4 hv1 hv2 hgm h0
end
end FV
set_option Elab.async false
set_option linter.all false
set_option maxRecDepth 100000
set_option maxHeartbeats 4000000
/-! law: the changes. -/
namespace FV
open PySem PySem.Spec PyProof.Rows L2 LamX
abbrev dicT (tl : List (Nat × Tel)) : Ow := .dic (tl.map fun q => (q.1 : Int)) (tl.map fun q => eT q.2)
abbrev rB (x2 : D) (n : Nat) (v : Nat × Nat) (hg : List Nat) (z : Nat) (rest : List Sl) : List Sl := .u :: .o 2 :: .d x2 :: .d (eN n) :: .d (eP v) :: .d (.lst ((lTrees n).map eNs)) :: .d (eNs hg) :: .o (z + 3) :: rest
theorem w_at (Pl Pg : Addr) (t : List Ow) (u : Ow) : (wLaw Pl Pg (t ++ [u]))[t.length + 3]? = some u := by
  show (t ++ [u])[t.length]? = some u
  rw [List.getElem?_append_right (Nat.le_refl _), Nat.sub_self]
  rfl
theorem w_set (Pl Pg : Addr) (t : List Ow) (u x : Ow) : (wLaw Pl Pg (t ++ [u])).set (t.length + 3) x = wLaw Pl Pg (t ++ [x]) := by
  show Ow.tb _ _ :: Ow.tb _ _ :: Ow.tape :: (t ++ [u]).set t.length x = _
  rw [List.set_append_right _ _ (Nat.le_refl _), Nat.sub_self]
  rfl
section
variable {P : Program} {W : World} {K : PySem.W.Frag} {mg : Str → Option Value} {base : Heap} {cl : Nat → Addr} {cT cN : Addr}
theorem law_changes (C : LawC P W K mg base cl cT cN) (M : LawM) {f : Addr} {cdv : Value} {A : Around} {outer : List PySem.Env} {s : Shared} {H : Hp} {E : XK} (hx : Room 21 (XLaw P W K mg base f cdv A outer s H E).A) (Pl Pg : Addr) (t : List Ow) (x2 : D) {F : Ph} {n : Nat} {v : Nat × Nat} {hg : List Nat} (hn1 : 1 ≤ n) (hn4 : n ≤ 4) (hv1 : v.1 ≤ 3) (hv2 : v.2 ≤ 3) (hgm : hg ∈ lTrees n) {tl : List (Nat × Tel)} (hp : Pc ⟨v, n, tl⟩)
    (k : ∀ tl, Pc ⟨v, n, tl⟩ → WSs cl (XLaw P W K mg base f cdv A outer s H E) 3 (rB x2 n v hg t.length (List.replicate 10 .u)) (wLaw Pl Pg (t ++ [dicT tl])) (turnB.drop 6) F) :
    WSs cl (XLaw P W K mg base f cdv A outer s H E) 3 (rB x2 n v hg t.length (List.replicate 10 .u)) (wLaw Pl Pg (t ++ [dicT tl])) (turnB.drop 5) F := by
  refine wss_cons (ws_forR (G := fun j => j < 4) C.b PassesOwn.never rfl (wq_pick (i := 1) (m := 4) C.pick hx (by omega) rfl rfl (wp_k 4) (by omega) (by omega) pass0) (fun j hj => by omega) (fun i r1 w1 => ∃ tl, Pc ⟨v, n, tl⟩ ∧ r1 = rB x2 n v hg t.length (List.replicate 10 .u) ∧ w1 = wLaw Pl Pg (t ++ [dicT tl])) ⟨tl, hp, rfl, rfl⟩ (fun i r1 w1 hP => ?_) fun j r1 w1 _ hP => ?_)
  · obtain ⟨tl, hp, rfl, rfl⟩ := hP
    obtain ⟨g1, g2⟩ := tree_mem hgm
    have hl : tl.length ≤ 16 := hp.told_len
    have hpos : 1 ≤ tl.length := by
      have := hp.head
      cases tl with
      | nil => simp at this
      | cons _ _ => simp
    have hasc : (tl.map fun q => (q.1 : Int)).Pairwise (· ≤ ·) := by
      have := hp.asc
      rw [List.pairwise_map] at this ⊢
      exact this.imp fun h => by
        have h : _ < _ := h
        omega
    refine ⟨_, _, wg_n 8 sc_law.nd, ?_⟩
    refine wss_cons (ws_setq 9 sc_law.nd (F := fun x => ∃ p ∈ tl.map (·.1), x = eN p) (wq_mono (wq_tape (i := 1) (F := fun x => x ∈ (tl.map fun q => (q.1 : Int)).map D.int) C.any hx (by omega) rfl rfl (one_q (F := fun x => x = .lst ((tl.map fun q => (q.1 : Int)).map D.int)) (wq_p (wp_peek 7 (u := dicT tl) rfl (w_at _ _ _ _) (wp_sortedD C.b rfl (wp_v 7) (List.Perm.refl _) hasc (by rw [List.length_map]; omega)) (frees_map (k := 2) (fun _ => rfl) _)) rfl)) ?_ pass0) ?_) ?_)
    · rintro ds ⟨x, e1, e2⟩
      subst e1 e2
      refine ⟨⟨_, rfl, ?_, ?_⟩, fun y hy => hy _ rfl⟩
      · rw [List.length_map, List.length_map]
        exact hpos
      · rw [List.length_map, List.length_map]
        omega
    · intro d hd
      rw [List.map_map] at hd
      obtain ⟨q, hq, rfl⟩ := List.mem_map.mp hd
      exact ⟨q.1, List.mem_map.mpr ⟨q, hq, rfl⟩, rfl⟩
    rintro d ⟨p, hpm, rfl⟩
    have hpn : p ≤ n := by
      obtain ⟨q, hq, e⟩ := List.mem_map.mp hpm
      have := (hp.form q hq).1
      rw [← e]
      exact this
    have back : Sub (rB x2 n v hg t.length (List.replicate 10 .u)) (((rB x2 n v hg t.length (List.replicate 10 .u)).set 8 (.d (eN i))).set 9 (.d (eN p))) := .same (.same (.same (.same (.same (.same (.same (.same (.u (.u (.refl _))))))))))
    refine wss_one (ws_ifq (F := fun _ => True) (wtq_or (wt_gtN (wp_v 9) (wp_k 0)) (fun _ => wtq_eq (wq_mono (wq_pick (i := 1) (m := 6) C.pick hx (by omega) rfl rfl (wp_k 6) (by omega) (by omega) pass0) fun d ⟨j, e1, _⟩ => ⟨(j : Int), e1⟩) (wp_k 0)) fun _ => trivial) (fun _ => ?_) fun _ => wss_nil ⟨_, back, tl, hp, rfl, rfl⟩)
    have hw : (wLaw Pl Pg (t ++ [dicT tl]))[t.length + 3]? = some (.dic ((iT tl).map (·.1)) ((iT tl).map (·.2))) := by
      rw [List.map_map, List.map_map]
      exact w_at _ _ _ _
    refine wss_one (ws_dputq 7 (T := fun x => ∃ t, x = eT t ∧ formB v n p t = true) hx rfl hw (wq_tape (i := 1) C.other hx (by omega) rfl rfl (waq_cons (F := fun x => x = eNs hg) (wq_p (wp_v 6) rfl) (waq_cons (F := fun x => x = eP v) (wq_p (wp_v 4) rfl) (waq_cons (F := fun x => x = eN p) (wq_p (wp_v 9) rfl) waq_nil))) ?_ pass0) (wp_v 9) (by rw [List.length_map]; omega) ?_)
    · rintro ds ⟨x, t1, rfl, rfl, y, t2, rfl, rfl, z, t3, rfl, rfl, rfl⟩
      refine ⟨⟨hg, v, p, rfl, ⟨fun x hx => by rw [g1]; exact g2 x hx, by omega⟩, by omega, hv1, hv2, by omega⟩, ?_⟩
      rintro x ⟨h', v', p', tt, e1, rfl, hf⟩
      simp only [List.cons.injEq, and_true] at e1
      have b1 := eNs_inj e1.1
      have b2 := eP_inj e1.2.1
      have b3 := eN_inj e1.2.2
      subst b1 b2 b3
      rw [g1] at hf
      exact ⟨tt, rfl, hf⟩
    · rintro d ⟨tt, rfl, hf⟩
      refine ⟨_, back, putN p tt tl, pc_put hp hpm hf, rfl, ?_⟩
      rw [aput_iT, w_set, List.map_map, List.map_map]
      rfl
  · obtain ⟨tl, hp, rfl, rfl⟩ := hP
    exact k tl hp
end
end FV
set_option Elab.async false
set_option linter.all false
set_option maxRecDepth 100000
set_option maxHeartbeats 4000000
/-! law: the picture, what is due. -/
namespace FV
open PySem PySem.Spec PyProof.Rows L2 LamX
abbrev rC (x2 : D) (n : Nat) (v : Nat × Nat) (hg : List Nat) (tl : List (Nat × Tel)) (rest : List Sl) : List Sl := .u :: .o 2 :: .d x2 :: .d (eN n) :: .d (eP v) :: .d (.lst ((lTrees n).map eNs)) :: .d (eNs hg) :: .d (eD eT tl) :: .u :: .u :: rest
section
variable {P : Program} {W : World} {K : PySem.W.Frag} {mg : Str → Option Value} {base : Heap} {cl : Nat → Addr} {cT cN : Addr}
theorem law_pict (C : LawC P W K mg base cl cT cN) (M : LawM) {f : Addr} {cdv : Value} {A : Around} {outer : List PySem.Env} {s : Shared} {H : Hp} {E : XK} (hx : Room 21 (XLaw P W K mg base f cdv A outer s H E).A) (Pl Pg : Addr) (t : List Ow) (x2 : D) {F : Ph} {n : Nat} {v : Nat × Nat} {hg : List Nat} (hn1 : 1 ≤ n) (hn4 : n ≤ 4) (hv1 : v.1 ≤ 3) (hv2 : v.2 ≤ 3) (hgm : hg ∈ lTrees n) {tl : List (Nat × Tel)} (hp : Pc ⟨v, n, tl⟩)
    (k : WSs cl (XLaw P W K mg base f cdv A outer s H E) 3 (rC x2 n v hg tl (.d (ePic ⟨v, n, tl⟩) :: .d (dOpt eN (lDue (lTrees n) v tl).1) :: .d (.lst ((lDue (lTrees n) v tl).2.map eNs)) :: List.replicate 5 .u)) (wLaw Pl Pg (t ++ [.gone])) (turnB.drop 8) F) :
    WSs cl (XLaw P W K mg base f cdv A outer s H E) 3 (rB x2 n v hg t.length (List.replicate 10 .u)) (wLaw Pl Pg (t ++ [dicT tl])) (turnB.drop 6) F := by
  refine wss_share 7 (t.length + 3) rfl (w_at _ _ _ _) rfl (by omega) (no_o ?_) ?_
  · intro x hx h
    subst h
    simp [List.replicate] at hx
  rw [w_set]
  have hl : tl.length ≤ 16 := hp.told_len
  refine wss_cons (ws_setp 10 sc_law.nd (d := ePic ⟨v, n, tl⟩) (wp_make (C.pict ⟨v, n, tl⟩) (hx.mono (by omega : 5 + 1 ≤ 21)) (wa_cons (wp_v 4) (wa_cons (wp_v 3) (wa_cons (wp_v 7) wa_nil))) hp pass0) ?_)
  refine wss_cons (ws_asg (wp_px (C.due n (lTrees n) v tl) hx (by omega) (wa_cons (wp_v 5) (wa_cons (wp_v 4) (wa_cons (wp_v 7) wa_nil))) ⟨hn1, hn4, fun h hm => tree_mem hm, trees_small hn4, by omega, by omega, ?_, fun q hq => (hp.form q hq).1, hl⟩ pass0) (wg_two rfl (wg_n 11 sc_law.nd) (wg_n 12 sc_law.nd)) ?_)
  · exact hp.asc.imp fun h => Nat.ne_of_lt h
  exact k
end
end FV
set_option Elab.async false
set_option linter.all false
set_option maxRecDepth 100000
set_option maxHeartbeats 4000000
/-! law: what comes back is what is due. -/
namespace FV
open PySem PySem.Spec PyProof.Rows L2 LamX
theorem eqv_optN (o : Option Nat) : PyData.eqv (pyD (dOpt eN o)) (pyD (dOpt eN o)) = true := by
  cases o with
  | none => rfl
  | some x => exact (eqv_N x x).mpr rfl
theorem sh_optN {n : Nat} (o : Option Nat) : Sh n (dOpt eN o) := by
  cases o with
  | none => exact sh_non
  | some x => exact sh_int
section
variable {P : Program} {W : World} {K : PySem.W.Frag} {mg : Str → Option Value} {base : Heap} {cl : Nat → Addr} {cT cN : Addr}
theorem law_cmp (C : LawC P W K mg base cl cT cN) (M : LawM) {f : Addr} {cdv : Value} {A : Around} {outer : List PySem.Env} {s : Shared} {H : Hp} {E : XK} (hx : Room 21 (XLaw P W K mg base f cdv A outer s H E).A) (x2 : D) {F : Ph} {n : Nat} {v : Nat × Nat} {hg : List Nat} {w : List Ow} (hn4 : n ≤ 4) (hv1 : v.1 ≤ 3) (hv2 : v.2 ≤ 3) {tl : List (Nat × Tel)} (hp : Pc ⟨v, n, tl⟩)
    (k : WSs cl (XLaw P W K mg base f cdv A outer s H E) 3 (rC x2 n v hg tl (.d (ePic ⟨v, n, tl⟩) :: .d (dOpt eN (lDue (lTrees n) v tl).1) :: .d (.lst ((lDue (lTrees n) v tl).2.map eNs)) :: List.replicate 5 .u)) w (turnB.drop 9) F) :
    WSs cl (XLaw P W K mg base f cdv A outer s H E) 3 (rC x2 n v hg tl (.d (ePic ⟨v, n, tl⟩) :: .d (dOpt eN (lDue (lTrees n) v tl).1) :: .d (.lst ((lDue (lTrees n) v tl).2.map eNs)) :: List.replicate 5 .u)) w (turnB.drop 8) F := by
  obtain ⟨hN, hD⟩ := M.near ⟨v, n, tl⟩ hp hn4 hv1 hv2
  have hD : lDue (lTrees n) v tl = (leastOf ⟨v, n, tl⟩, nearOf ⟨v, n, tl⟩) := hD.symm
  rw [hD] at k ⊢
  have hlen : (nearOf ⟨v, n, tl⟩).length ≤ 1000 := by
    unfold nearOf
    rw [(sortL_perm _).length_eq, found_len]
    cases hq : nearLaid ⟨v, n, tl⟩ with
    | none => exact Nat.zero_le _
    | some q => exact hN.2.2 q hq
  refine wss_cons (ws_if (t := false) (wt_is (wt_ww (ww_or (wt_neD (bb := true) hx (wp_px (C.least ⟨v, n, tl⟩) hx (by omega) (wa_cons (wp_v 10) wa_nil) hN pass0) (wp_v 11) (sh_optN _) (sh_optN _) (eqv_optN _)) fun _ => ww_or1 (wt_neD (x := .lst ((nearOf ⟨v, n, tl⟩).map eNs)) (bb := true) hx (wp_lcm (xs := nearOf ⟨v, n, tl⟩) (enc := eTree) (g := fun h => eNs h) (ra := fun h => (rC x2 n v hg tl (.d (ePic ⟨v, n, tl⟩) :: .d (dOpt eN (leastOf ⟨v, n, tl⟩)) :: .d (.lst ((nearOf ⟨v, n, tl⟩).map eNs)) :: .d (eTree h) :: List.replicate 4 .u))) [("_law_one", 13)] rfl sc_law.nd (blk : BlkOk N_law (defScope s_law) _ _) (by omega) (wi_L (wp_px (C.near ⟨v, n, tl⟩) hx (by omega) (wa_cons (wp_v 10) wa_nil) hN pass0)) (fun i hi => hi) (fun h hh _ _ _ _ _ => wg_n 13 sc_law.nd) (fun h hh _ _ _ _ _ => wp_fld C.kf.tree C.kf.hung (wp_v 13) rfl)) (wp_v 12) ?_ ?_ ?_))) rfl) (fun z => by cases z) fun _ => wss_nil k)
  · exact sh_lst (sh_map (fun l => sh_eNs l) _)
  · exact sh_lst (sh_map (fun l => sh_eNs l) _)
  · exact (eqvAll_map eqv_Ns _ _).mpr rfl
end
end FV
set_option Elab.async false
set_option linter.all false
set_option maxRecDepth 100000
set_option maxHeartbeats 4000000
/-! law: wrong, told by the lambda. -/
namespace FV
open PySem PySem.Spec PyProof.Rows L2 LamX
theorem tells_of {Q : Pic} {h : List Nat} {p : Nat} {t : Tel} (hq : Pc Q) (hm : (p, t) ∈ Q.told) : tellsB Q h p = (t == rawTel h Q.view p) := by
  unfold tellsB
  have nd : (Q.told.map (·.1)).Nodup := hq.asc.imp fun h => Nat.ne_of_lt h
  rw [look_mem nd hm]
  rfl
section
variable {n : Nat} {v : Nat × Nat} {tl : List (Nat × Tel)} {g : List Nat}
theorem bad_mem (M : LawM) (hn1 : 1 ≤ n) (hn4 : n ≤ 4) (hv1 : v.1 ≤ 3) (hv2 : v.2 ≤ 3) (hp : Pc ⟨v, n, tl⟩) (hg : g ∈ lTrees n) {q : Nat × Tel} (hq : q ∈ tl) : (!(lTel g v q.1 == q.2)) = !tellsB ⟨v, n, tl⟩ g q.1 := by
  rw [tells_of hp (p := q.1) (t := q.2) hq]
  have := M.tel n g v q.1 hn1 hn4 hg hv1 hv2 (hp.form q hq).1
  show _ = !(q.2 == rawTel g v q.1)
  rw [this]
  congr 1
  exact BEq.comm
theorem bad_zero (M : LawM) (hn1 : 1 ≤ n) (hn4 : n ≤ 4) (hv1 : v.1 ≤ 3) (hv2 : v.2 ≤ 3) (hp : Pc ⟨v, n, tl⟩) (hg : g ∈ lTrees n) : (lBad tl v g).contains 0 = !tellsB ⟨v, n, tl⟩ g 0 := by
  obtain ⟨q, hq, e⟩ := List.mem_map.mp hp.head
  have e : q.1 = 0 := e
  have hb := bad_mem M hn1 hn4 hv1 hv2 hp hg hq
  rw [e] at hb
  rw [← hb]
  have nd : (tl.map (·.1)).Nodup := hp.asc.imp fun h => Nat.ne_of_lt h
  rw [Bool.eq_iff_iff, List.contains_iff_mem]
  unfold lBad
  constructor
  · intro hm
    obtain ⟨q2, hq2, e2⟩ := List.mem_map.mp hm
    obtain ⟨hq3, hq4⟩ := List.mem_filter.mp hq2
    have : q2 = q := by
      have l1 := look_mem nd hq3
      have l2 := look_mem nd hq
      rw [e2] at l1
      rw [e] at l2
      rw [l1] at l2
      exact Prod.ext (e2.trans e.symm) (Option.some.inj l2)
    rw [← this, ← e2]
    rw [e2] at hq4 ⊢
    exact hq4
  · intro h
    refine List.mem_map.mpr ⟨q, List.mem_filter.mpr ⟨hq, ?_⟩, e⟩
    rw [e]
    exact h
theorem bad_wrong (M : LawM) (hn1 : 1 ≤ n) (hn4 : n ≤ 4) (hv1 : v.1 ≤ 3) (hv2 : v.2 ≤ 3) (hp : Pc ⟨v, n, tl⟩) (hg : g ∈ lTrees n) (h0 : tellsB ⟨v, n, tl⟩ g 0 = true) : wrongOf ⟨v, n, tl⟩ g = lBad tl v g := by
  unfold wrongOf toldBlocks lBad
  rw [List.filter_map, List.filter_map, List.filter_filter]
  congr 1
  apply List.filter_congr
  intro q hq
  rw [bad_mem M hn1 hn4 hv1 hv2 hp hg hq]
  show (!tellsB ⟨v, n, tl⟩ g q.1 && !(q.1 == 0)) = _
  by_cases z : q.1 = 0
  · rw [z, h0]
    rfl
  · have : (q.1 == 0) = false := by simpa using z
    rw [this, Bool.not_false, Bool.and_true]
end
theorem wt_inTN {cl : Nat → Addr} {X : Cx} {r : List Sl} {w : List Ow} {a b : Expr} {pos : Pos} {i : Nat} {l : List Nat} (ha : WP cl X r w a (eN i)) (hb : WP cl X r w b (eNs l)) (hm : behindInMarks .In b = false := by rfl) : WT cl X r w (.Compare a [.In] [b] pos) (l.contains i) := wt_is (wt_inT (ns := l.map Int.ofNat) ha (wp_is hb (congrArg D.tup (ints_of l))) hm) (by
  rw [Bool.eq_iff_iff, decide_eq_true_iff, List.contains_iff_mem]
  constructor
  · intro h
    obtain ⟨j, hj, e⟩ := List.mem_map.mp h
    have : j = i := by
      have e : (j : Int) = (i : Int) := e
      omega
    rw [← this]
    exact hj
  · exact fun h => List.mem_map.mpr ⟨i, h, rfl⟩)
section
variable {P : Program} {W : World} {K : PySem.W.Frag} {mg : Str → Option Value} {base : Heap} {cl : Nat → Addr} {cT cN : Addr}
abbrev rD (x2 : D) (n : Nat) (v : Nat × Nat) (hg : List Nat) (tl : List (Nat × Tel)) (rest : List Sl) : List Sl := rC x2 n v hg tl (.d (ePic ⟨v, n, tl⟩) :: .d (dOpt eN (lDue (lTrees n) v tl).1) :: .d (.lst ((lDue (lTrees n) v tl).2.map eNs)) :: .u :: rest)
theorem eqv_two {x : Str} {d : D} (h : PyData.eqv (pyD d) (pyD d) = true) : PyData.eqv (pyD (.tup [.str x, d])) (pyD (.tup [.str x, d])) = true := by
  show PyData.eqv (.tuple [.str x, pyD d]) (.tuple [.str x, pyD d]) = true
  simp [PyData.eqv, PyData.eqvAll, h]
/-- what the lambda's word is -/
def wordD (tl : List (Nat × Tel)) (v : Nat × Nat) (g : List Nat) : D := if (lBad tl v g).contains 0 = true then .tup [.str "fitting", .non] else .tup [.str "let", eNs (lBad tl v g)]
theorem law_again (C : LawC P W K mg base cl cT cN) (M : LawM) {pl : Str × Option Str} {A : Around} {outer : List PySem.Env} {s : Shared} {H : Hp} {E : XK} (hx : Room 21 (XLaw P W K mg base (He.fAd K pl) (.ref (He.codeOf K pl)) A outer s H E).A) {Pl Pg : Addr} (TB : TabB base mg (He.codeOf K pl) Pl) (t : List Ow) (x2 : D) {F : Ph} {n : Nat} {v : Nat × Nat} {hg : List Nat} (hn1 : 1 ≤ n) (hn4 : n ≤ 4) (hv1 : v.1 ≤ 3) (hv2 : v.2 ≤ 3) {tl : List (Nat × Tel)} (hp : Pc ⟨v, n, tl⟩)
    (k : WSs cl (XLaw P W K mg base (He.fAd K pl) (.ref (He.codeOf K pl)) A outer s H E) 3 (rD x2 n v hg tl (List.replicate 4 .u)) (wLaw Pl Pg t) (turnB.drop 10) F) :
    WSs cl (XLaw P W K mg base (He.fAd K pl) (.ref (He.codeOf K pl)) A outer s H E) 3 (rD x2 n v hg tl (List.replicate 4 .u)) (wLaw Pl Pg t) (turnB.drop 9) F := by
  have hl : tl.length ≤ 16 := hp.told_len
  have htp := trees_pos hn4
  have hts := trees_small hn4
  have nd : (tl.map (·.1)).Nodup := hp.asc.imp fun h => Nat.ne_of_lt h
  have hasc : (tl.map fun q => (q.1 : Int)).Pairwise (· ≤ ·) := by
    have := hp.asc
    rw [List.pairwise_map] at this ⊢
    exact this.imp fun h => by
      have h : _ < _ := h
      omega
  have to : LamTo (XLaw P W K mg base (He.fAd K pl) (.ref (He.codeOf K pl)) A outer s H E) "_law_word" "_law_call" (lamN (XLaw P W K mg base (He.fAd K pl) (.ref (He.codeOf K pl)) A outer s H E)) (TTw cT cN) := by
    obtain ⟨fw, fdw, Fw, gw⟩ := C.word
    exact lamTo_word Fw gw C.ke
  refine wss_cons (ws_for PassesOwn.never rfl (wi_range (i := 4) C.b (wp_k 4) (by decide)) (fun i r1 w1 => r1 = rD x2 n v hg tl (List.replicate 4 .u) ∧ w1 = wLaw Pl Pg t) ⟨rfl, rfl⟩ (fun i x r1 w1 e hP => ?_) fun r1 w1 hP => ?_)
  · obtain ⟨rfl, rfl⟩ := hP
    obtain ⟨i2, hi2, rfl⟩ : ∃ q, (List.range 4)[i]? = some q ∧ eN q = x := by
      rw [List.getElem?_map] at e
      exact Option.map_eq_some_iff.mp e
    refine ⟨_, _, wg_n 14 sc_law.nd, ?_⟩
    refine wss_cons (ws_setq 15 sc_law.nd (F := fun x => ∃ g ∈ lTrees n, x = eNs g) (wq_mono (wq_tape (i := 1) (F := fun x => x ∈ (lTrees n).map eNs) C.any hx (by omega) rfl rfl (one_q (F := fun x => x = .lst ((lTrees n).map eNs)) (wq_p (wp_v 5) rfl)) ?_ pass0) ?_) ?_)
    · rintro ds ⟨x, e1, e2⟩
      subst e1 e2
      refine ⟨⟨_, rfl, ?_, ?_⟩, fun y hy => hy _ rfl⟩
      · rw [List.length_map]
        exact htp
      · rw [List.length_map]
        omega
    · intro d hd
      obtain ⟨g, hg, rfl⟩ := List.mem_map.mp hd
      exact ⟨g, hg, rfl⟩
    rintro d ⟨g, hgm, rfl⟩
    obtain ⟨g1, g2⟩ := tree_mem hgm
    obtain ⟨T1, T2'⟩ := M.tree n g hn1 hn4 hgm
    have T2 : 1 ≤ g.length ∧ ∀ b, 1 ≤ b → b ≤ g.length → hangAt g b ≠ b := ⟨by omega, T2'⟩
    refine wss_cons (ws_setp 16 sc_law.nd (d := eNs (lBad tl v g)) (wp_is (wp_tupleL C.b (wp_lc (xs := tl) (enc := fun q => eN q.1) (f := fun q => !(lTel g v q.1 == q.2)) (g := fun q => eN q.1) (ra := fun q => ((rD x2 n v hg tl [.d (eN i2), .d (eNs g), .u, .u]).set 9 (.d (eN q.1)))) [("_law_place", 9)] rfl sc_law.nd (blk : BlkOk N_law (defScope s_law) _ _) (by omega) (wi_L (wp_is (wp_sortedD C.b rfl (wp_v 7) (List.Perm.refl _) hasc (by rw [List.length_map]; omega)) (congrArg D.lst (told_ints tl)))) (fun i hi => hi) (fun q hq _ _ _ _ _ => wg_n 9 sc_law.nd) (fun q hq _ _ _ _ _ => wts_one (wt_neD hx (wp_px (cal_one C.telling (g, v, q.1)) hx (by omega) (wa_cons (wp_v 15) (wa_cons (wp_v 4) (wa_cons (wp_v 9) wa_nil))) ⟨⟨fun x hx => by show x ≤ g.length; rw [g1]; exact g2 x hx, by show g.length ≤ 4; omega⟩, by show q.1 ≤ g.length; have := (hp.form q hq).1; rw [g1]; exact this, by show v.1 ≤ 4; omega, by show v.2 ≤ 4; omega⟩ pass0) (wp_dgetN hx (wp_v 7) (wp_v 9) (look_mem nd hq)) (sh_eT _) (sh_eT _) (tel_eqv _ _))) (fun q hq _ _ _ _ _ _ => wp_v 9))) ?_) ?_)
    · show D.tup _ = D.tup _
      unfold lBad
      rw [List.map_map]
      rfl
    have back : Sub (rD x2 n v hg tl (List.replicate 4 .u)) (rD x2 n v hg tl [.d (eN i2), .d (eNs g), .d (eNs (lBad tl v g)), .u]) := .same (.same (.same (.same (.same (.same (.same (.same (.same (.same (.same (.same (.same (.same (.u (.u (.u (.same .nil)))))))))))))))))
    have hz := bad_zero M hn1 hn4 hv1 hv2 hp hgm
    cases hb : (lBad tl v g).contains 0 with
    | true =>
      rw [hb] at hz
      have h0 : tellsB ⟨v, n, tl⟩ g 0 = false := by
        cases hh : tellsB ⟨v, n, tl⟩ g 0 with
        | true => rw [hh] at hz; cases hz
        | false => rfl
      refine wss_one (ws_if (t := false) (wt_is (wt_neD (x := .tup [.str "fitting", .non]) (y := .tup [.str "fitting", .non]) (bb := true) hx (wp_wordN (cT := cT) (cN := cN) (j := 0) (k := 10) (by rw [lam_name]; rfl) to TB rfl (hx.mono (by omega)) (lamS_by (sc := defScope s_law) (by decide +kernel)) fun A outer s H E f c' hr2 s0 hE => wpr_call (C.wrR ⟨v, n, tl⟩ g) hr2 (by omega) (takes_of rfl rfl rfl rfl) hE (wa_cons (wp_v 10) (wa_cons (wp_make (C.tree g) (hr2.mono (by omega)) (wa_cons (wp_v 15) wa_nil) ⟨T1, T2⟩ pass0) wa_nil)) ⟨hp, T1, g1, h0⟩) (wp_ifT (wt_inTN (i := 0) (wp_k 0) (wp_v 16)) hb (wp_tup (ds := [.str "fitting", .non]) (wa_cons wp_str (wa_cons wp_non wa_nil)) (by show 2 ≤ 100000; decide))) (sh_two sh_non) (sh_two sh_non) (by decide +kernel)) rfl) (fun z => by cases z) fun _ => wss_nil ⟨_, back, rfl, rfl⟩)
    | false =>
      rw [hb] at hz
      have h0 : tellsB ⟨v, n, tl⟩ g 0 = true := by
        cases hh : tellsB ⟨v, n, tl⟩ g 0 with
        | true => rfl
        | false => rw [hh] at hz; cases hz
      have hw := bad_wrong M hn1 hn4 hv1 hv2 hp hgm h0
      refine wss_one (ws_if (t := false) (wt_is (wt_neD (x := .tup [.str "let", eNs (lBad tl v g)]) (y := .tup [.str "let", eNs (lBad tl v g)]) (bb := true) hx (wp_word (cT := cT) (cN := cN) (j := 0) (k := 10) (by rw [lam_name]; rfl) to TB rfl (hx.mono (by omega)) (lamS_by (sc := defScope s_law) (by decide +kernel)) fun A outer s H E f c' hr2 => wp_is (wp_px (C.wr ⟨v, n, tl⟩ g) hr2 (by omega) (wa_cons (wp_v 10) (wa_cons (wp_make (C.tree g) (hr2.mono (by omega)) (wa_cons (wp_v 15) wa_nil) ⟨T1, T2⟩ pass0) wa_nil)) ⟨hp, T1, g1, h0⟩ pass0) (by rw [hw])) (wp_ifF (wt_inTN (i := 0) (wp_k 0) (wp_v 16)) hb (wp_tup (ds := [.str "let", eNs (lBad tl v g)]) (wa_cons wp_str (wa_cons (wp_v 16) wa_nil)) (by show 2 ≤ 100000; decide))) (sh_two (sh_eNs _)) (sh_two (sh_eNs _)) (eqv_two ((eqv_Ns _ _).mpr rfl))) rfl) (fun z => by cases z) fun _ => wss_nil ⟨_, back, rfl, rfl⟩)
  · obtain ⟨rfl, rfl⟩ := hP
    exact k
end
end FV
set_option Elab.async false
set_option linter.all false
set_option maxRecDepth 100000
set_option maxHeartbeats 4000000
/-! law: what is mended; a turn, whole. -/
namespace FV
open PySem PySem.Spec PyProof.Rows L2 LamX
section
variable {P : Program} {W : World} {K : PySem.W.Frag} {mg : Str → Option Value} {base : Heap} {cl : Nat → Addr} {cT cN : Addr}
theorem law_best (C : LawC P W K mg base cl cT cN) (M : LawM) {f : Addr} {cdv : Value} {A : Around} {outer : List PySem.Env} {s : Shared} {H : Hp} {E : XK} (hx : Room 21 (XLaw P W K mg base f cdv A outer s H E).A) (x2 : D) {F : Ph} {n : Nat} {v : Nat × Nat} {hg : List Nat} {w : List Ow} (hn4 : n ≤ 4) (hv1 : v.1 ≤ 3) (hv2 : v.2 ≤ 3) {tl : List (Nat × Tel)} (hp : Pc ⟨v, n, tl⟩)
    (k : ∀ x, F.nx (rD x2 n v hg tl [.u, .u, .u, .d x]) w) :
    WSs cl (XLaw P W K mg base f cdv A outer s H E) 3 (rD x2 n v hg tl (List.replicate 4 .u)) w (turnB.drop 10) F := by
  obtain ⟨hN, hD⟩ := M.near ⟨v, n, tl⟩ hp hn4 hv1 hv2
  refine wss_cons (ws_setp 17 sc_law.nd (wp_px (C.mended ⟨v, n, tl⟩) hx (by omega) (wa_cons (wp_v 10) wa_nil) hN.1 pass0) ?_)
  cases hm : mendedOf ⟨v, n, tl⟩ with
  | none => exact wss_one (ws_if (t := false) (wt_is (wt_ww (ww_and (u := false) (wt_notN (wp_v 17) isN_non) fun z => by cases z)) rfl) (fun z => by cases z) fun _ => wss_nil (k _))
  | some h =>
    have hmem := M.mend ⟨v, n, tl⟩ h hp hn4 hv1 hv2 hm
    refine wss_one (ws_if (t := false) (wt_is (wt_ww (ww_and (u := false) (wt_notN (wp_v 17) isN_obj) fun _ => ww_and1 (wt_is (wt_niDL (k := 20) (x := eNs h) (ds := (lDue (lTrees n) v tl).2.map eNs) (bb := true) hx (wp_fld C.kf.tree C.kf.hung (wp_v 17) rfl) (wp_v 12) (sh_eNs _) (sh_lst (sh_map (fun l => sh_eNs l) _)) ?_) rfl))) rfl) (fun z => by cases z) fun _ => wss_nil (k _))
    rw [List.any_map, List.any_eq_true]
    exact ⟨h, hmem, (eqv_Ns h h).mpr rfl⟩
theorem law_turn (C : LawC P W K mg base cl cT cN) (M : LawM) {pl : Str × Option Str} {A : Around} {outer : List PySem.Env} {s : Shared} {H : Hp} {E : XK} (hx : Room 21 (XLaw P W K mg base (He.fAd K pl) (.ref (He.codeOf K pl)) A outer s H E).A) {Pl Pg : Addr} (TB : TabB base mg (He.codeOf K pl) Pl) (t : List Ow) (x2 : D) {F : Ph}
    (k : ∀ r w, Sub rLaw r → (∃ t', w = wLaw Pl Pg t') → F.nx r w) : WSs cl (XLaw P W K mg base (He.fAd K pl) (.ref (He.codeOf K pl)) A outer s H E) 3 (rLaw.set 2 (.d x2)) (wLaw Pl Pg t) turnB F := by
  refine law_head C M hx Pl Pg t x2 fun n v hg lost hn1 hn4 hv1 hv2 hgm h0 => ?_
  refine law_changes C M hx Pl Pg t x2 hn1 hn4 hv1 hv2 hgm (pc_told M.tf hgm hn1 hn4 hv1 hv2 h0) fun tl hp => ?_
  refine law_pict C M hx Pl Pg t x2 hn1 hn4 hv1 hv2 hgm hp ?_
  refine law_cmp C M hx x2 hn4 hv1 hv2 hp ?_
  refine law_again C M hx TB (t ++ [.gone]) x2 hn1 hn4 hv1 hv2 hp ?_
  refine law_best C M hx x2 hn4 hv1 hv2 hp fun x => ?_
  exact k _ _ (.same (.same (.u (.u (.u (.u (.u (.u (.u (.u (.u (.u (.u (.u (.u (.u (.u (.u .nil)))))))))))))))))) ⟨_, rfl⟩
end
end FV
set_option Elab.async false
set_option linter.all false
set_option maxRecDepth 100000
set_option maxHeartbeats 4000000
/-! law. -/
namespace FV
open PySem PySem.Spec PyProof.Rows L2 LamX
/-- law: true, whatever the script -/
def spLaw (K : PySem.W.Frag) (Pl Pg : Addr) : Sp := fun vs H Q _ => ∃ (a : Addr) (ns : List Int), vs = [.ref a] ∧ SqL K H a (ns.map V.int) ∧ H Pl = some (.tbl #[]) ∧ H Pg = some (.tbl #[]) ∧ ∀ H', Q (.bl true) H'
theorem tb_new {H0 H : Hp} {P : Addr} {q : Str} (h : H P = some (.tbl #[])) : TbAt H0 H P q := ⟨#[], h, True.intro, fun pos cv hc => by simp [codeAmong] at hc⟩
/-- the state once the tape is there -/
theorem ok_start {K : PySem.W.Frag} {cl : Nat → Addr} {H : Hp} {s' : Sta} {Pl Pg p : Addr} (hne : Pl ≠ Pg) (h1 : H Pl = some (.tbl #[])) (h2 : H Pg = some (.tbl #[])) (st : Step ⟨fun _ => none, H, []⟩ s') (hps : s'.ps = [some p]) (ok : Ok K cl s' [.tape]) : Ok K cl ⟨s'.H0, s'.H, [some Pl, some Pg, some p]⟩ (wLaw Pl Pg []) := by
  have hp : H p = none := by
    rcases st.e4 p (by rw [hps]; exact List.mem_singleton.mpr rfl) with z | z
    · exact absurd z List.not_mem_nil
    · exact z
  have n1 : Pl ≠ p := fun e => by rw [e, hp] at h1; cases h1
  have n2 : Pg ≠ p := fun e => by rw [e, hp] at h2; cases h2
  have zero : ∀ x o, H x = some o → s'.H0 x = none := fun x o e => by
    cases q : s'.H0 x with
    | none => rfl
    | some u =>
      rcases st.e2 x u q with z | z
      · cases z
      · have z : H x = none := z
        rw [e] at z
        cases z
  have keep : ∀ x o, H x = some o → s'.H x = some o := fun x o e => st.e1 x o e (by simp)
  have look : ∀ {i : Nat} {q : Addr}, ([some Pl, some Pg, some p] : List (Option Addr))[i]? = some (some q) → i = 0 ∧ q = Pl ∨ i = 1 ∧ q = Pg ∨ i = 2 ∧ q = p := fun {i q} e => by
    match i, e with
    | 0, e => exact .inl ⟨rfl, by simpa using e.symm⟩
    | 1, e => exact .inr (.inl ⟨rfl, by simpa using e.symm⟩)
    | 2, e => exact .inr (.inr ⟨rfl, by simpa using e.symm⟩)
    | i + 3, e => simp at e
  refine ⟨ok.lk, fun i j q e1 e2 => ?_, rfl, fun n q o e1 e2 => ?_, fun n q x e => ?_⟩
  · rcases look e1 with ⟨rfl, rfl⟩ | ⟨rfl, rfl⟩ | ⟨rfl, rfl⟩ <;> rcases look e2 with ⟨rfl, h⟩ | ⟨rfl, h⟩ | ⟨rfl, h⟩ <;> first | rfl | exact absurd h hne | exact absurd h.symm hne | exact absurd h n1 | exact absurd h.symm n1 | exact absurd h n2 | exact absurd h.symm n2
  · rcases look e1 with ⟨rfl, rfl⟩ | ⟨rfl, rfl⟩ | ⟨rfl, rfl⟩
    · have e2 : Ow.tb q (lamL "law") = o := by simpa using e2
      subst e2
      exact ⟨rfl, zero _ _ h1, tb_new (keep _ _ h1)⟩
    · have e2 : Ow.tb q (lamL "_law_great_right") = o := by simpa using e2
      subst e2
      exact ⟨rfl, zero _ _ h2, tb_new (keep _ _ h2)⟩
    · have e2 : Ow.tape = o := by simpa using e2
      subst e2
      exact ok.ow 0 q _ (by rw [hps]; rfl) rfl
  · match n, e with
    | 0, e =>
      have e : Ow.tb Pl (lamL "law") = Ow.tb q x := by simpa using e
      cases e
      rfl
    | 1, e =>
      have e : Ow.tb Pg (lamL "_law_great_right") = Ow.tb q x := by simpa using e
      cases e
      rfl
    | 2, e => simp at e
    | n + 3, e => simp at e
theorem wq_app {cl : Nat → Addr} {X : Cx} {r : List Sl} {w : List Ow} {e : Expr} {F : D → Prop} (h : WQ cl X r w e F) (s : Sta) (σ : L2.St) (I : Env X.K cl s σ r w) (Q : VK) (k : ∀ v s' d, Step s s' → Ok X.K cl s' w → R cl s'.H0 d v → F d → Q v s'.H) : tE X e σ s.H Q := h s σ I Q k
section
variable {P : Program} {W : World} {K : PySem.W.Frag} {mg : Str → Option Value} {base : Heap} {cl : Nat → Addr} {cT cN : Addr}
theorem ok_law {pl : Str × Option Str} {fd : FuncData} {Pl Pg : Addr} (C : LawC P W K mg base cl cT cN) (M : LawM) (TB : TabB base mg (He.codeOf K pl) Pl) (hne : Pl ≠ Pg) (C1 : Cal P W K mg base CX0 1 "_law_tape" ["_law_script"] (spTp K cl)) (C2 : Cal P W K mg base CX0 20 "_law_great_right" ["_law_tape_here"] (spG K cl Pg (lamL "_law_great_right")))
    (F : FunD K "law" "law" (defArgs s_law) (defBody s_law) (defScope s_law) [] [] (He.fAd K pl) fd) : FnOk P W K mg base CX0 22 (He.fAd K pl) fd ["_law_script"] (spLaw K Pl Pg) := by
  refine FunD.okC F sc_law (fun vs H Q E h => ?_) (fun A outer s H vs Q E hr h => ?_)
  · obtain ⟨_, _, rfl, _⟩ := h
    rfl
  · obtain ⟨a, ns, rfl, hS, h1, h2, hQ⟩ := h
    have hx : Room 21 (XLaw P W K mg base (He.fAd K pl) (.ref (He.codeOf K pl)) A outer s H E).A := hr
    obtain ⟨ft, fdt, Ft, mt, kt, bt⟩ := C1
    obtain ⟨fg, fdg, Fg, mgg, kg, bg⟩ := C2
    refine ⟨_, PSs.nox (pss_cons (ps_set (i := 1) sc_law.nd rfl (.inl rfl) (pe_call Ft (hx.mono (by omega)) rfl mt kt bt .nil pass0 (pa_cons (pe_var (i := 0) rfl (.inl rfl)) pa_nil))) (pss_cons (sS (X := XLaw P W K mg base (He.fAd K pl) (.ref (He.codeOf K pl)) A outer s H E)) (pss_one (ps_ret (pe_or (sE (X := XLaw P W K mg base (He.fAd K pl) (.ref (He.codeOf K pl)) A outer s H E)) (pe_one (pe_call Fg (hx.mono (by omega)) rfl mgg kg bg .nil pass0 (pa_cons (pe_var (i := 1) rfl (.inl rfl)) pa_nil)))))))), ?_⟩
    refine ⟨.ref a, rfl, ⟨fun _ => none, H, []⟩, a, ns, rfl, rfl, rfl, (fun _ _ e => by cases e), hS, fun p s' st hps ok => ?_⟩
    have ok1 := ok_start hne h1 h2 st hps ok
    let S1 : Sta := ⟨s'.H0, s'.H, [some Pl, some Pg, some p]⟩
    have I1 : Env K cl S1 ((L2.start N_law [.ref a]).set 1 (some (.ref p))) rLaw (wLaw Pl Pg []) := ⟨ok1, some (.ref a), _, rfl, trivial, some (.ref p), _, rfl, ⟨p, rfl, rfl⟩, (Rvs.us 16 none : Rvs cl S1 (List.replicate 16 .u) (List.replicate 16 none))⟩
    have loop : WS cl (XLaw P W K mg base (He.fAd K pl) (.ref (He.codeOf K pl)) A outer s H E) 3 rLaw (wLaw Pl Pg []) lawFor { nx := fun r w => r = rLaw ∧ ∃ t, w = wLaw Pl Pg t } := by
      refine ws_for PassesOwn.never rfl (wi_range (i := 2) C.b (wp_k 2) (by decide)) (fun i r1 w1 => r1 = rLaw ∧ ∃ t, w1 = wLaw Pl Pg t) ⟨rfl, [], rfl⟩ (fun i x r1 w1 e hP => ?_) fun r1 w1 hP => hP
      obtain ⟨rfl, t, rfl⟩ := hP
      refine ⟨_, _, wg_n 2 sc_law.nd, ?_⟩
      exact law_turn C M hx TB t x fun r w hs hw => ⟨_, hs, rfl, hw⟩
    refine loop S1 S1 _ _ rfl (.refl _) I1 ⟨fun s2 σ2 r2 w2 st2 I2 q => ?_, fun _ _ _ _ _ _ _ q => q.elim, fun _ _ _ _ _ _ q => q.elim, fun _ _ _ _ _ _ q => q.elim⟩
    obtain ⟨rfl, t, rfl⟩ := q
    refine wq_app (r := rLaw) (w := wLaw Pl Pg t) (wq_gt (wq_mono (wq_pick (i := 1) (m := 6) C.pick hx (by omega) rfl rfl (wp_k 6) (by omega) (by omega) pass0) fun d ⟨j, e1, _⟩ => ⟨(j : Int), e1⟩) (wp_k 0)) s2 σ2 I2 _ fun v s3 d st3 ok3 rv ⟨b, e⟩ => ?_
    subst e
    obtain rfl : v = .bl b := rv
    refine ⟨b, rfl, ?_⟩
    cases b with
    | true =>
      rw [if_pos rfl]
      exact hQ _
    | false =>
      rw [if_neg Bool.false_ne_true]
      have I3 := I2.step st3 ok3
      obtain ⟨u, e1, p2, e2, e3⟩ := I3.sl.get (i := 1) rfl
      subst e3
      refine ⟨_, e1, ⟨s3.H0, s3.H, [some p2, some Pg]⟩, p2, rfl, rfl, rfl, ?_, hQ⟩
      exact two_in ok3 (i := 2) (j := 1) (by decide) e2 (ok3.tb 1 Pg _ rfl) rfl rfl
end
end FV
set_option Elab.async false
set_option linter.all false
set_option maxRecDepth 100000
/-! An own exception class, told by a Bool. -/
namespace FV
open PySem PySem.Spec PyProof.Rows L2
/-- the class's own object: its chain begins with itself, goes on by classes of the text to ValueError's; six slots, the fifth ValueError's maker -/
def oexO (C : Addr) (o : Obj) : Bool := decide (o.cls = .type "type") && (decide (o.slots[4]? = some (some (.builtin "ValueError.__new__"))) && (decide (o.slots.size = 6) && match o.data with
  | .cls k => (k.hasDict && !k.hasDel) && (match k.mro with
    | top :: above => decide (top = .ref C) && PySem.HandSPX.refsVE above
    | [] => false)
  | _ => false))
def oexL (K : PySem.W.Frag) (C : Addr) : Bool := (K.lookup C).any (oexO C)
def oexB (K : PySem.W.Frag) (C : Addr) : Bool := oexL K C && (He.eqO (PySem.W.findIn K (.ref C) "__setattr__") (some (some (.builtin "object.__setattr__"))) && (decide (PySem.W.subIn K (.ref C) (.type "BaseException") = some true) && (decide (PySem.W.typeIn K (.ref C) = some (.type "type")) && PySem.W.keepIn K (.ref C))))
theorem six {α : Type} {l : Array α} (h : l.size = 6) : ∃ a b c d e f, l = #[a, b, c, d, e, f] := by
  obtain ⟨l⟩ := l
  match l, h with
  | [a, b, c, d, e, f], _ => exact ⟨a, b, c, d, e, f, rfl⟩
theorem oexL_ok {K : PySem.W.Frag} {C : Addr} (q : oexL K C = true) : ∃ nm q N bs bm sn sub ab col dd k0 k1 k2 k3 k5, K.lookup C = some (excClassObj nm q C N bs bm true sn sub ab col dd k0 k1 k2 k3 k5 "ValueError.__new__") ∧ PySem.HandSPX.refsVE bm = true := by
  obtain ⟨o, ho, q⟩ := (Option.any_eq_true _ _).mp q
  obtain ⟨q1, q⟩ := He.ba q
  obtain ⟨q2, q⟩ := He.ba q
  obtain ⟨q3, q⟩ := He.ba q
  obtain ⟨a0, a1, a2, a3, a4, a5, e⟩ := six (of_decide_eq_true q3)
  have q2 := of_decide_eq_true q2
  obtain ⟨oc, od, dt, sl⟩ := o
  have e : sl = _ := e
  subst e
  have q1 : oc = _ := of_decide_eq_true q1
  subst q1
  have q2 : a4 = some (.builtin "ValueError.__new__") := by simpa using q2
  subst q2
  cases dt with
  | cls k =>
    obtain ⟨x1, x2, x3, x4, x5, x6, x7, x8, x9, x10, x11⟩ := k
    obtain ⟨q4, q5⟩ := He.ba q
    obtain ⟨q6, q7⟩ := He.ba q4
    have q6 : x6 = true := q6
    have q7b : x11 = false := by simpa using q7
    clear q7
    subst q6 q7b
    cases x3 with
    | nil => cases q5
    | cons top above =>
      obtain ⟨q8, q9⟩ := He.ba q5
      have q8 : top = .ref C := of_decide_eq_true q8
      subst q8
      exact ⟨_, _, _, _, _, _, _, _, _, _, _, _, _, _, _, ho, q9⟩
  | _ => cases q
theorem oexB_ok {K : PySem.W.Frag} {C : Addr} (q : oexB K C = true) : OexC K C := by
  obtain ⟨h1, q⟩ := He.ba q
  obtain ⟨h2, q⟩ := He.ba q
  obtain ⟨h3, q⟩ := He.ba q
  obtain ⟨h4, h5⟩ := He.ba q
  exact ⟨oexL_ok h1, He.eqO_ok h2, of_decide_eq_true h3, of_decide_eq_true h4, h5⟩
/-- TooMany, NotFitting, the two tables -/
def hexB (K : PySem.W.Frag) : Bool := oexB K (He.ga K "TooMany") && (xfB K (He.ga K "TooMany") && (He.eqO (PySem.W.findIn K (.ref (He.ga K "TooMany")) "most") (some none) && (He.eqO (PySem.W.findIn K (.ref (He.ga K "TooMany")) "__init__") (some (some (.ref (He.fAd K ("TooMany", some "__init__"))))) && (decide (PySem.W.typeIn K (.ref (He.fAd K ("TooMany", some "__init__"))) = some (.type "function")) && decide ((He.cT K ("law", none)).2 ≠ (He.cT K ("_law_great_right", none)).2)))))
end FV
set_option Elab.async false
set_option linter.all false
set_option maxRecDepth 100000
set_option maxHeartbeats 0
/-! The head: facts by names, one run of the top in the kernel. -/
namespace FV
open PySem PySem.Spec PyProof.Rows L2
def d_TooMany_init : He.DefD := ⟨("TooMany", some "__init__"), "__init__", "TooMany.__init__", defArgs s_TooMany_init, defBody s_TooMany_init, defScope s_TooMany_init, [], []⟩
def d_is_integer : He.DefD := ⟨("is_integer", none), "is_integer", "is_integer", defArgs s_is_integer, defBody s_is_integer, defScope s_is_integer, [], []⟩
def d_is_within : He.DefD := ⟨("is_within", none), "is_within", "is_within", defArgs s_is_within, defBody s_is_within, defScope s_is_within, [], []⟩
def d_is_pair : He.DefD := ⟨("is_pair", none), "is_pair", "is_pair", defArgs s_is_pair, defBody s_is_pair, defScope s_is_pair, [], []⟩
def d_is_ascending : He.DefD := ⟨("is_ascending", none), "is_ascending", "is_ascending", defArgs s_is_ascending, defBody s_is_ascending, defScope s_is_ascending, [], []⟩
def d_is_view : He.DefD := ⟨("is_view", none), "is_view", "is_view", defArgs s_is_view, defBody s_is_view, defScope s_is_view, [], []⟩
def d_leads_home : He.DefD := ⟨("leads_home", none), "leads_home", "leads_home", defArgs s_leads_home, defBody s_leads_home, defScope s_leads_home, [], []⟩
def d_Tree_init : He.DefD := ⟨("Tree", some "__init__"), "__init__", "Tree.__init__", defArgs s_Tree_init, defBody s_Tree_init, defScope s_Tree_init, [], []⟩
def d_parents_in : He.DefD := ⟨("parents_in", none), "parents_in", "parents_in", defArgs s_parents_in, defBody s_parents_in, defScope s_parents_in, [], []⟩
def d_hanging : He.DefD := ⟨("hanging", none), "hanging", "hanging", defArgs s_hanging, defBody s_hanging, defScope s_hanging, [], []⟩
def d_ties_down : He.DefD := ⟨("ties_down", none), "ties_down", "ties_down", defArgs s_ties_down, defBody s_ties_down, defScope s_ties_down, [], []⟩
def d_raw_telling : He.DefD := ⟨("raw_telling", none), "raw_telling", "raw_telling", defArgs s_raw_telling, defBody s_raw_telling, defScope s_raw_telling, [], []⟩
def d_raw_distance : He.DefD := ⟨("raw_distance", none), "raw_distance", "raw_distance", defArgs s_raw_distance, defBody s_raw_distance, defScope s_raw_distance, [], []⟩
def d_is_tie : He.DefD := ⟨("is_tie", none), "is_tie", "is_tie", defArgs s_is_tie, defBody s_is_tie, defScope s_is_tie, [], []⟩
def d_has_form : He.DefD := ⟨("has_form", none), "has_form", "has_form", defArgs s_has_form, defBody s_has_form, defScope s_has_form, [], []⟩
def d_Picture_init : He.DefD := ⟨("Picture", some "__init__"), "__init__", "Picture.__init__", defArgs s_Picture_init, defBody s_Picture_init, defScope s_Picture_init, [], []⟩
def d_without : He.DefD := ⟨("without", none), "without", "without", defArgs s_without, defBody s_without, defScope s_without, [], []⟩
def d_does_fit : He.DefD := ⟨("does_fit", none), "does_fit", "does_fit", defArgs s_does_fit, defBody s_does_fit, defScope s_does_fit, [], []⟩
def d_told_ties : He.DefD := ⟨("told_ties", none), "told_ties", "told_ties", defArgs s_told_ties, defBody s_told_ties, defScope s_told_ties, [], []⟩
def d_ties_known : He.DefD := ⟨("ties_known", none), "ties_known", "ties_known", defArgs s_ties_known, defBody s_ties_known, defScope s_ties_known, [], []⟩
def d_way_up : He.DefD := ⟨("way_up", none), "way_up", "way_up", defArgs s_way_up, defBody s_way_up, defScope s_way_up, [], []⟩
def d_Laid_init : He.DefD := ⟨("Laid", some "__init__"), "__init__", "Laid.__init__", defArgs s_Laid_init, defBody s_Laid_init, defScope s_Laid_init, [], []⟩
def d_Laid_many : He.DefD := ⟨("Laid", some "many"), "many", "Laid.many", defArgs s_Laid_many, defBody s_Laid_many, defScope s_Laid_many, [], []⟩
def d_Laid_hung_by : He.DefD := ⟨("Laid", some "hung_by"), "hung_by", "Laid.hung_by", defArgs s_Laid_hung_by, defBody s_Laid_hung_by, defScope s_Laid_hung_by, [], []⟩
def d_Laid_digits : He.DefD := ⟨("Laid", some "digits"), "digits", "Laid.digits", defArgs s_Laid_digits, defBody s_Laid_digits, defScope s_Laid_digits, [], []⟩
def d_laid_or_none : He.DefD := ⟨("laid_or_none", none), "laid_or_none", "laid_or_none", defArgs s_laid_or_none, defBody s_laid_or_none, defScope s_laid_or_none, [], []⟩
def d_raw_tree_at : He.DefD := ⟨("raw_tree_at", none), "raw_tree_at", "raw_tree_at", defArgs s_raw_tree_at, defBody s_raw_tree_at, defScope s_raw_tree_at, [], []⟩
def d_told_blocks : He.DefD := ⟨("told_blocks", none), "told_blocks", "told_blocks", defArgs s_told_blocks, defBody s_told_blocks, defScope s_told_blocks, [], []⟩
def d_tells : He.DefD := ⟨("tells", none), "tells", "tells", defArgs s_tells, defBody s_tells, defScope s_tells, [], []⟩
def d_wrong : He.DefD := ⟨("wrong", none), "wrong", "wrong", defArgs s_wrong, defBody s_wrong, defScope s_wrong, [], []⟩
def d_lots_of : He.DefD := ⟨("lots_of", none), "lots_of", "lots_of", defArgs s_lots_of, defBody s_lots_of, defScope s_lots_of, [], []⟩
def d_laid_without : He.DefD := ⟨("laid_without", none), "laid_without", "laid_without", defArgs s_laid_without, defBody s_laid_without, defScope s_laid_without, [], []⟩
def d_mended : He.DefD := ⟨("mended", none), "mended", "mended", defArgs s_mended, defBody s_mended, defScope s_mended, [], []⟩
def d_nearest_laid : He.DefD := ⟨("nearest_laid", none), "nearest_laid", "nearest_laid", defArgs s_nearest_laid, defBody s_nearest_laid, defScope s_nearest_laid, [], []⟩
def d_nearest : He.DefD := ⟨("nearest", none), "nearest", "nearest", defArgs s_nearest, defBody s_nearest, defScope s_nearest, [], []⟩
def d_least_wrong : He.DefD := ⟨("least_wrong", none), "least_wrong", "least_wrong", defArgs s_least_wrong, defBody s_least_wrong, defScope s_least_wrong, [], []⟩
def d_l_tape : He.DefD := ⟨("_law_tape", none), "_law_tape", "_law_tape", defArgs s_l_tape, defBody s_l_tape, defScope s_l_tape, [], []⟩
def d_l_pick : He.DefD := ⟨("_law_pick", none), "_law_pick", "_law_pick", defArgs s_l_pick, defBody s_l_pick, defScope s_l_pick, [], []⟩
def d_l_any : He.DefD := ⟨("_law_any", none), "_law_any", "_law_any", defArgs s_l_any, defBody s_l_any, defScope s_l_any, [], []⟩
def d_l_mixed : He.DefD := ⟨("_law_mixed", none), "_law_mixed", "_law_mixed", defArgs s_l_mixed, defBody s_l_mixed, defScope s_l_mixed, [], []⟩
def d_l_trees : He.DefD := ⟨("_law_trees", none), "_law_trees", "_law_trees", defArgs s_l_trees, defBody s_l_trees, defScope s_l_trees, [], []⟩
def d_l_goes_home : He.DefD := ⟨("_law_goes_home", none), "_law_goes_home", "_law_goes_home", defArgs s_l_goes_home, defBody s_l_goes_home, defScope s_l_goes_home, [], []⟩
def d_l_telling : He.DefD := ⟨("_law_telling", none), "_law_telling", "_law_telling", defArgs s_l_telling, defBody s_l_telling, defScope s_l_telling, [], []⟩
def d_l_told : He.DefD := ⟨("_law_told", none), "_law_told", "_law_told", defArgs s_l_told, defBody s_l_told, defScope s_l_told, [], []⟩
def d_l_lot : He.DefD := ⟨("_law_lot", none), "_law_lot", "_law_lot", defArgs s_l_lot, defBody s_l_lot, defScope s_l_lot, [], []⟩
def d_l_other : He.DefD := ⟨("_law_other", none), "_law_other", "_law_other", defArgs s_l_other, defBody s_l_other, defScope s_l_other, [], []⟩
def d_l_word : He.DefD := ⟨("_law_word", none), "_law_word", "_law_word", defArgs s_l_word, defBody s_l_word, defScope s_l_word, [], []⟩
def d_l_due : He.DefD := ⟨("_law_due", none), "_law_due", "_law_due", defArgs s_l_due, defBody s_l_due, defScope s_l_due, [], []⟩
def d_l_great_right : He.DefD := ⟨("_law_great_right", none), "_law_great_right", "_law_great_right", defArgs s_l_great_right, defBody s_l_great_right, defScope s_l_great_right, [], []⟩
def d_law : He.DefD := ⟨("law", none), "law", "law", defArgs s_law, defBody s_law, defScope s_law, [], []⟩
def hfn0 : List He.DefD := [d_TooMany_init, d_is_integer, d_is_within, d_is_pair, d_is_ascending, d_is_view, d_leads_home, d_Tree_init, d_parents_in, d_hanging, d_ties_down, d_raw_telling, d_raw_distance, d_is_tie, d_has_form, d_Picture_init, d_without, d_does_fit, d_told_ties, d_ties_known, d_way_up, d_Laid_init, d_Laid_many, d_Laid_hung_by, d_Laid_digits, d_laid_or_none, d_raw_tree_at, d_told_blocks, d_tells, d_wrong]
def hfn1 : List He.DefD := [d_lots_of, d_laid_without, d_mended, d_nearest_laid, d_nearest, d_least_wrong, d_l_tape, d_l_pick, d_l_any, d_l_mixed, d_l_trees, d_l_goes_home, d_l_telling, d_l_told, d_l_lot, d_l_other, d_l_word, d_l_due, d_l_great_right, d_law]
def hfn : List He.DefD := hfn0 ++ hfn1
def hfa0 : List He.Fa := [.glo "is_integer", .glo "is_within", .glo "is_pair", .glo "is_ascending", .glo "is_view", .glo "leads_home", .glo "parents_in", .glo "hanging", .glo "ties_down", .glo "raw_telling", .glo "raw_distance", .glo "is_tie", .glo "has_form", .glo "without", .glo "does_fit", .glo "told_ties", .glo "ties_known", .glo "way_up", .glo "laid_or_none", .glo "raw_tree_at", .glo "told_blocks", .glo "tells", .glo "wrong", .glo "lots_of", .glo "laid_without", .glo "mended", .glo "nearest_laid", .glo "nearest", .glo "least_wrong", .glo "_law_tape"]
def hfa1 : List He.Fa := [.glo "_law_pick", .glo "_law_any", .glo "_law_mixed", .glo "_law_trees", .glo "_law_goes_home", .glo "_law_telling", .glo "_law_told", .glo "_law_lot", .glo "_law_other", .glo "_law_word", .glo "_law_due", .glo "_law_great_right", .glo "law", .glo "Tree", .glo "Picture", .glo "Laid", .glo "TooMany", .glo "NotFitting", .glo "VoteError", .free "len", .free "range", .free "sorted", .free "min", .free "sum", .free "list", .free "tuple", .free "dict", .free "set", .free "int", .free "bool"]
def hfa2 : List He.Fa := [.free "enumerate", .free "zip", .free "all", .free "any", .free "abs", .free "isinstance", .int "MOST_BLOCKS_checks" 40, .int "MOST_STEPS" 4, .int "HEAD" 0, .int "MOST_BLOCKS_wrongs" 10, .int "MOST_TREES" 1000, .cls "Tree", .noat "Tree" "hung", .mkr "Tree", .cls "Picture", .noat "Picture" "view", .noat "Picture" "blocks", .noat "Picture" "told", .mkr "Picture", .cls "Laid", .noat "Laid" "blocks", .noat "Laid" "ties", .noat "Laid" "piece", .noat "Laid" "tops", .noat "Laid" "lots", .noat "Laid" "every", .mkr "Laid", .meth "Laid" "many", .meth "Laid" "hung_by", .meth "Laid" "digits"]
def hfa3 : List He.Fa := [.exm "TooMany" "TooMany" true, .exm "NotFitting" "TooMany" false, .exm "NotFitting" "NotFitting" true, .keep "TooMany", .keep "NotFitting", .exc "NotFitting"]
def hfa : List He.Fa := hfa0 ++ hfa1 ++ hfa2 ++ hfa3
def htf : List He.Defn := [("_law_great_right", none), ("law", none)]
/-- an own exception class over VoteError: what is asked of it besides -/
abbrev hex (K : PySem.W.Frag) : Bool := hexB K
abbrev HR : PySem.W.OpenRow := PySem.W.OpenLaw.row PySem.Challenge.rw_foldervotes_k21_whole_nearest_trees_by_a
abbrev hhk : PySem.W.Hook := He.hookX 4 hfa hfn [] htf hex
def hob (s : PySem.W.SharedT) : He.AlX := He.obsX 4 hfa hfn [] htf hex (HandSHeadRun.getT s)
theorem hob_eq (s : PySem.W.SharedT) : hob s = hhk.obs s.abs := He.obsX_eq (HandSHeadRun.getT_eq s)
def hloose0 : List Str := ["_wall", "VoteError", "BadTree", "OtherBlocks", "BadPicture", "NotFitting", "TooMany", "MOST_BLOCKS_checks", "MOST_STEPS", "is_integer", "is_within", "is_pair", "is_ascending", "is_view", "HEAD", "leads_home", "Tree", "parents_in", "hanging", "ties_down", "raw_telling", "raw_distance", "is_tie", "has_form", "Picture", "without", "does_fit", "told_ties", "ties_known", "way_up"]
def hloose1 : List Str := ["Laid", "laid_or_none", "raw_tree_at", "MOST_BLOCKS_wrongs", "MOST_TREES", "told_blocks", "tells", "wrong", "lots_of", "laid_without", "mended", "nearest_laid", "nearest", "least_wrong", "_law_tape", "_law_pick", "_law_any", "_law_mixed", "_law_trees", "_law_goes_home", "_law_telling", "_law_told", "_law_lot", "_law_other", "_law_word", "_law_due", "_law_great_right"]
def hloose : List Str := hloose0 ++ hloose1
theorem hrun (w : World) : HandSHeadRun.RunEq HR (PySem.W.view HR.prog [65]) hhk hob 6000 hloose w := by
  intro os
  kernel_rfl
end FV
set_option linter.all false
set_option maxRecDepth 100000
/-! The mathematics, part 1: going home, striking, codes. -/
namespace FV
namespace Mt
theorem iter_succ (f : Nat → Nat) : ∀ k x, iter f (k + 1) x = f (iter f k x)
  | 0, _ => rfl
  | k + 1, x => iter_succ f k (f x)
section
variable {u : Nat → Nat} {n : Nat}
theorem iter_zero (h0 : u 0 = 0) : ∀ k, iter u k 0 = 0
  | 0 => rfl
  | k + 1 => by
    show iter u k (u 0) = 0
    rw [h0]
    exact iter_zero h0 k
theorem iter_more (h0 : u 0 = 0) {k x : Nat} (h : iter u k x = 0) : ∀ m, iter u (k + m) x = 0
  | 0 => h
  | m + 1 => by
    show iter u (k + m + 1) x = 0
    rw [iter_succ, iter_more h0 h m, h0]
theorem iter_le (h0 : u 0 = 0) {k m x : Nat} (h : iter u k x = 0) (hm : k ≤ m) : iter u m x = 0 := by
  obtain ⟨j, rfl⟩ := Nat.exists_eq_add_of_le hm
  exact iter_more h0 h j
def dep (u : Nat → Nat) : Nat → Nat → Nat
  | 0, _ => 0
  | f + 1, x => if x = 0 then 0 else dep u f (u x) + 1
theorem dep_succ (h0 : u 0 = 0) : ∀ f x, iter u f x = 0 → dep u (f + 1) x = dep u f x
  | 0, x, h => by
    have : x = 0 := h
    simp [dep, this]
  | f + 1, x, h => by
    have ih := dep_succ h0 f (u x) h
    unfold dep
    split
    · rfl
    · rw [ih]
theorem dep_up (h0 : u 0 = 0) {K x : Nat} (h : iter u K x = 0) (hx : x ≠ 0) : dep u K (u x) < dep u K x := by
  cases K with
  | zero => exact absurd h hx
  | succ K =>
    have h' : iter u K (u x) = 0 := h
    have := dep_succ h0 K (u x) h'
    rw [this]
    show _ < if x = 0 then 0 else dep u K (u x) + 1
    rw [if_neg hx]
    omega
theorem common (h0 : u 0 = 0) : ∀ n, (∀ x, x ≤ n → ∃ k, iter u k x = 0) → ∃ K, ∀ x, x ≤ n → iter u K x = 0
  | 0, h => by
    obtain ⟨k, hk⟩ := h 0 (Nat.le_refl _)
    exact ⟨k, fun x hx => by
      have : x = 0 := by omega
      rw [this]; exact hk⟩
  | n + 1, h => by
    obtain ⟨K, hK⟩ := common h0 n fun x hx => h x (by omega)
    obtain ⟨k, hk⟩ := h (n + 1) (Nat.le_refl _)
    refine ⟨K + k, fun x hx => ?_⟩
    by_cases e : x = n + 1
    · rw [e]; exact iter_le h0 hk (by omega)
    · exact iter_le h0 (hK x (by omega)) (by omega)
theorem mem_blk {n b : Nat} : b ∈ blocksOf n ↔ 1 ≤ b ∧ b ≤ n := by
  unfold blocksOf
  rw [List.mem_map]
  constructor
  · rintro ⟨a, ha, rfl⟩
    have := List.mem_range.mp ha
    omega
  · rintro ⟨h1, h2⟩
    exact ⟨b - 1, List.mem_range.mpr (by omega), by omega⟩
theorem blk_len {n : Nat} : (blocksOf n).length = n := by simp [blocksOf]
theorem rank_tree (h0 : u 0 = 0) (hu : ∀ x, 1 ≤ x → x ≤ n → u x ≤ n) (r : Nat → Nat) (hr : ∀ x, 1 ≤ x → x ≤ n → r (u x) < r x) (x : Nat) (hx : x ≤ n) : iter u n x = 0 := by
  apply Classical.byContradiction
  intro hne
  have all : ∀ k, k ≤ n → 1 ≤ iter u k x ∧ iter u k x ≤ n := by
    intro k
    induction k with
    | zero =>
      intro _
      refine ⟨?_, hx⟩
      apply Nat.pos_of_ne_zero
      intro h
      exact hne (iter_le h0 (k := 0) h (Nat.zero_le _))
    | succ k ih =>
      intro hk
      obtain ⟨h1, h2⟩ := ih (by omega)
      refine ⟨?_, ?_⟩
      · apply Nat.pos_of_ne_zero
        intro h
        exact hne (iter_le h0 h hk)
      · rw [iter_succ]
        exact hu _ h1 h2
  have dec : ∀ i k, i + k + 1 ≤ n → r (iter u (i + k + 1) x) < r (iter u i x) := by
    intro i k
    induction k with
    | zero =>
      intro h
      obtain ⟨h1, h2⟩ := all i (by omega)
      show r (iter u (i + 1) x) < _
      rw [iter_succ]
      exact hr _ h1 h2
    | succ k ih =>
      intro h
      obtain ⟨h1, h2⟩ := all (i + k + 1) (by omega)
      have := ih (by omega)
      have h3 := hr _ h1 h2
      rw [← iter_succ u] at h3
      exact Nat.lt_trans h3 this
  have nd : ((List.range (n + 1)).map fun k => iter u k x).Nodup := by
    rw [List.Nodup, List.pairwise_map]
    refine List.pairwise_lt_range.imp_of_mem fun {a b} ha hb hab e => ?_
    have hb := List.mem_range.mp hb
    obtain ⟨k, rfl⟩ := Nat.exists_eq_add_of_lt hab
    have := dec a k (by omega)
    rw [e] at this
    exact Nat.lt_irrefl _ this
  have sub : ((List.range (n + 1)).map fun k => iter u k x) ⊆ blocksOf n := by
    intro y hy
    obtain ⟨k, hk, rfl⟩ := List.mem_map.mp hy
    have := List.mem_range.mp hk
    exact mem_blk.mpr (all k (by omega))
  have := nd.length_le_of_subset sub
  rw [blk_len, List.length_map, List.length_range] at this
  omega
theorem home_tree (h0 : u 0 = 0) (hu : ∀ x, 1 ≤ x → x ≤ n → u x ≤ n) (h : ∀ x, x ≤ n → ∃ k, iter u k x = 0) (x : Nat) (hx : x ≤ n) : iter u n x = 0 := by
  obtain ⟨K, hK⟩ := common h0 n h
  exact rank_tree h0 hu (dep u K) (fun y h1 h2 => dep_up h0 (hK y h2) (by omega)) x hx
end
/-! ### least -/
theorem foldl_min (l : List Nat) : ∀ x, (l.foldl min x = x ∨ l.foldl min x ∈ l) ∧ l.foldl min x ≤ x ∧ ∀ y ∈ l, l.foldl min x ≤ y := by
  induction l with
  | nil => intro x; exact ⟨.inl rfl, Nat.le_refl _, fun y hy => absurd hy List.not_mem_nil⟩
  | cons a l ih =>
    intro x
    obtain ⟨h1, h2, h3⟩ := ih (min x a)
    rw [List.foldl_cons]
    refine ⟨?_, by omega, fun y hy => ?_⟩
    · rcases h1 with h1 | h1
      · rw [h1]
        by_cases q : x ≤ a
        · left; omega
        · right
          have : min x a = a := by omega
          rw [this]
          exact List.mem_cons_self
      · right; exact List.mem_cons_of_mem _ h1
    · rcases List.mem_cons.mp hy with rfl | hy
      · omega
      · exact h3 y hy
theorem minL_mem {l : List Nat} (h : l ≠ []) : minL l ∈ l := by
  cases l with
  | nil => exact absurd rfl h
  | cons x r =>
    obtain ⟨h1, _⟩ := foldl_min r x
    show r.foldl min x ∈ _
    rcases h1 with h1 | h1
    · rw [h1]; exact List.mem_cons_self
    · exact List.mem_cons_of_mem _ h1
theorem minL_le {l : List Nat} {y : Nat} (h : y ∈ l) : minL l ≤ y := by
  cases l with
  | nil => exact absurd h List.not_mem_nil
  | cons x r =>
    obtain ⟨_, h2, h3⟩ := foldl_min r x
    show r.foldl min x ≤ y
    rcases List.mem_cons.mp h with rfl | h
    · exact h2
    · exact h3 y h
/-! ### striking -/
def cand (held left : List Nat) : List Nat := left.filter fun t => !held.contains t
theorem cand_mem {held left : List Nat} {t : Nat} : t ∈ cand held left ↔ t ∈ left ∧ t ∉ held := by
  unfold cand
  rw [List.mem_filter]
  simp
theorem cand_congr {held held' left : List Nat} (h : ∀ t, t ∈ held ↔ t ∈ held') : cand held left = cand held' left := by
  unfold cand
  apply List.filter_congr
  intro t _
  have : held.contains t = held'.contains t := by
    rw [Bool.eq_iff_iff, List.contains_iff_mem, List.contains_iff_mem]
    exact h t
  rw [this]
theorem strike_cons (pc : Nat → Nat) (p : Nat) (r left : List Nat) : strike pc (p :: r) left = (minL (cand ((p :: r).map pc) left), p) :: strike pc r (left.erase (minL (cand ((p :: r).map pc) left))) ∨ ¬ left.Nodup := by
  by_cases nd : left.Nodup
  · left
    rw [nd.erase_eq_filter]
    rfl
  · exact .inr nd
theorem strike_eq {pc : Nat → Nat} {p : Nat} {r left : List Nat} (nd : left.Nodup) : strike pc (p :: r) left = (minL (cand ((p :: r).map pc) left), p) :: strike pc r (left.erase (minL (cand ((p :: r).map pc) left))) := (strike_cons pc p r left).resolve_right fun h => h nd
/-- notes fit what is left -/
structure Nt (pc : Nat → Nat) (notes left : List Nat) : Prop where
  nd : left.Nodup
  len : notes.length = left.length
  pos : 0 ∉ left
  last : ∀ p, notes.getLast? = some p → pc p = 0
theorem Nt.top {pc : Nat → Nat} {p : Nat} {r left : List Nat} (h : Nt pc (p :: r) left) : minL (cand ((p :: r).map pc) left) ∈ left ∧ minL (cand ((p :: r).map pc) left) ∉ (p :: r).map pc := by
  refine cand_mem.mp (minL_mem fun e => ?_)
  have hall : ∀ t ∈ left, t ∈ (p :: r).map pc := fun t ht => by
    apply Classical.byContradiction
    intro hn
    have : t ∈ cand ((p :: r).map pc) left := cand_mem.mpr ⟨ht, hn⟩
    rw [e] at this
    exact List.not_mem_nil this
  have hne : (p :: r) ≠ [] := by simp
  have e2 : (p :: r) = (p :: r).dropLast ++ [(p :: r).getLast hne] := (List.dropLast_concat_getLast hne).symm
  have hlast := h.last _ (List.getLast?_eq_some_getLast hne)
  have sub : left ⊆ ((p :: r).dropLast).map pc := fun t ht => by
    have := hall t ht
    rw [e2, List.map_append, List.mem_append] at this
    rcases this with this | this
    · exact this
    · simp only [List.map_cons, List.map_nil, List.mem_singleton] at this
      rw [hlast] at this
      subst this
      exact absurd ht h.pos
  have := h.nd.length_le_of_subset sub
  rw [List.length_map, List.length_dropLast, h.len] at this
  have hl := h.len
  rw [List.length_cons] at hl
  omega
theorem Nt.tail {pc : Nat → Nat} {p : Nat} {r left : List Nat} (h : Nt pc (p :: r) left) : Nt pc r (left.erase (minL (cand ((p :: r).map pc) left))) where
  nd := h.nd.erase _
  len := by
    have hl := h.len
    rw [List.length_erase_of_mem h.top.1]
    rw [List.length_cons] at hl
    omega
  pos := fun h0 => h.pos (List.mem_of_mem_erase h0)
  last := fun q hq => h.last q (by
    cases r with
    | nil => simp at hq
    | cons a b => rw [List.getLast?_cons_cons]; exact hq)
theorem strike_perm {pc : Nat → Nat} : ∀ {notes left : List Nat}, Nt pc notes left → ((strike pc notes left).map (·.1)).Perm left ∧ (strike pc notes left).map (·.2) = notes
  | [], left, h => by
    have : left = [] := List.length_eq_zero_iff.mp h.len.symm
    subst this
    exact ⟨.refl _, rfl⟩
  | p :: r, left, h => by
    rw [strike_eq h.nd]
    obtain ⟨h1, h2⟩ := strike_perm h.tail
    refine ⟨?_, ?_⟩
    · rw [List.map_cons]
      exact (h1.cons _).trans (List.perm_cons_erase h.top.1).symm
    · rw [List.map_cons, h2]
/-- a forest of known ties: pc the top of a piece -/
structure Fo (n : Nat) (up : Nat → Option Nat) (pc ht : Nat → Nat) : Prop where
  up0 : up 0 = none
  upr : ∀ b y, up b = some y → 1 ≤ b ∧ b ≤ n ∧ y ≤ n
  pcs : ∀ x y, up x = some y → pc x = pc y
  pct : ∀ x, x ≤ n → up x = none → pc x = x
  dec : ∀ x y, up x = some y → ht y < ht x
section
variable {n : Nat} {up : Nat → Option Nat} {pc ht : Nat → Nat}
theorem Fo.top (F : Fo n up pc ht) : ∀ k x, ht x < k → x ≤ n → up (pc x) = none ∧ pc x ≤ n
  | 0, x, h, _ => absurd h (Nat.not_lt_zero _)
  | k + 1, x, h, hx => by
    cases e : up x with
    | none =>
      rw [F.pct x hx e]
      exact ⟨e, hx⟩
    | some y =>
      rw [F.pcs x y e]
      exact F.top k y (by have := F.dec x y e; omega) (F.upr x y e).2.2
theorem Fo.tp (F : Fo n up pc ht) {x : Nat} (hx : x ≤ n) : up (pc x) = none ∧ pc x ≤ n := F.top _ x (Nat.lt_succ_self _) hx
theorem Fo.z (F : Fo n up pc ht) : pc 0 = 0 := F.pct 0 (Nat.zero_le _) F.up0
theorem Fo.way (F : Fo n up pc ht) {u : Nat → Nat} (hu : ∀ x y, up x = some y → u x = y) : ∀ k x, ht x < k → x ≤ n → (∃ j, iter u j (pc x) = 0) → ∃ j, iter u j x = 0
  | 0, x, h, _, _ => absurd h (Nat.not_lt_zero _)
  | k + 1, x, h, hx, q => by
    cases e : up x with
    | none =>
      rw [F.pct x hx e] at q
      exact q
    | some y =>
      rw [F.pcs x y e] at q
      obtain ⟨j, hj⟩ := F.way hu k y (by have := F.dec x y e; omega) (F.upr x y e).2.2 q
      refine ⟨j + 1, ?_⟩
      show iter u j (u x) = 0
      rw [hu x y e]
      exact hj
theorem strike_home (F : Fo n up pc ht) {u : Nat → Nat} (hu : ∀ x y, up x = some y → u x = y) : ∀ {notes left : List Nat}, Nt pc notes left → (∀ p ∈ notes, p ≤ n ∧ (pc p = 0 ∨ pc p ∈ left)) → (∀ q ∈ strike pc notes left, u q.1 = q.2) → ∀ x, x ≤ n → (pc x = 0 ∨ pc x ∈ left) → ∃ k, iter u k x = 0
  | [], left, h, _, _, x, hx, hp => by
    have : left = [] := List.length_eq_zero_iff.mp h.len.symm
    subst this
    rcases hp with hp | hp
    · refine F.way hu _ x (Nat.lt_succ_self _) hx ⟨0, ?_⟩
      rw [hp]
      rfl
    · exact absurd hp List.not_mem_nil
  | p :: r, left, h, hn, hs, x, hx, hp => by
    rw [strike_eq h.nd] at hs
    obtain ⟨t1, t2⟩ := h.top
    generalize ht' : minL (cand ((p :: r).map pc) left) = top at *
    have tl := h.tail
    rw [ht'] at tl
    have other : ∀ q, (pc q = 0 ∨ pc q ∈ left) → pc q ≠ top → pc q = 0 ∨ pc q ∈ left.erase top := fun q h1 h2 => by
      rcases h1 with h1 | h1
      · exact .inl h1
      · exact .inr ((List.mem_erase_of_ne h2).mpr h1)
    have ne : ∀ q ∈ p :: r, pc q ≠ top := fun q hq e => t2 (List.mem_map.mpr ⟨q, hq, e⟩)
    have ih := strike_home F hu tl (fun q hq => ⟨(hn q (List.mem_cons_of_mem _ hq)).1, other q (hn q (List.mem_cons_of_mem _ hq)).2 (ne q (List.mem_cons_of_mem _ hq))⟩) fun q hq => hs q (List.mem_cons_of_mem _ hq)
    by_cases e : pc x = top
    · refine F.way hu _ x (Nat.lt_succ_self _) hx ?_
      obtain ⟨k, hk⟩ := ih p (hn p List.mem_cons_self).1 (other p (hn p List.mem_cons_self).2 (ne p List.mem_cons_self))
      refine ⟨k + 1, ?_⟩
      rw [e]
      show iter u k (u top) = 0
      have := hs (top, p) List.mem_cons_self
      rw [show u top = p from this]
      exact hk
    · exact ih x hx (other x hp e)
end
/-! ### codes -/
def code (pc g : Nat → Nat) : Nat → List Nat → List Nat
  | 0, _ => []
  | k + 1, left => g (minL (cand (left.map fun s => pc (g s)) left)) :: code pc g k (left.erase (minL (cand (left.map fun s => pc (g s)) left)))
theorem bounded (d : Nat → Nat) (left : List Nat) : ∃ B, ∀ t ∈ left, d t < B := by
  induction left with
  | nil => exact ⟨0, fun t ht => absurd ht List.not_mem_nil⟩
  | cons a l ih =>
    obtain ⟨B, hB⟩ := ih
    refine ⟨B + d a + 1, fun t ht => ?_⟩
    rcases List.mem_cons.mp ht with rfl | ht
    · omega
    · have := hB t ht
      omega
section
variable {pc g d : Nat → Nat}
theorem cand_pos {left : List Nat} (hne : left ≠ []) (hd : ∀ t ∈ left, ∀ s ∈ left, pc (g s) = t → d t < d s) : minL (cand (left.map fun s => pc (g s)) left) ∈ left ∧ minL (cand (left.map fun s => pc (g s)) left) ∉ left.map fun s => pc (g s) := by
  refine cand_mem.mp (minL_mem fun e => ?_)
  have hall : ∀ t ∈ left, ∃ s ∈ left, pc (g s) = t := fun t ht => by
    apply Classical.byContradiction
    intro hn
    have : t ∈ cand (left.map fun s => pc (g s)) left := cand_mem.mpr ⟨ht, fun h => by
      obtain ⟨s, hs, e⟩ := List.mem_map.mp h
      exact hn ⟨s, hs, e⟩⟩
    rw [e] at this
    exact List.not_mem_nil this
  obtain ⟨B, hB⟩ := bounded d left
  have far : ∀ m, ∃ t ∈ left, m ≤ d t := by
    intro m
    induction m with
    | zero =>
      obtain ⟨t, ht⟩ := List.exists_mem_of_ne_nil left hne
      exact ⟨t, ht, Nat.zero_le _⟩
    | succ m ih =>
      obtain ⟨t, ht, h1⟩ := ih
      obtain ⟨s, hs, e⟩ := hall t ht
      exact ⟨s, hs, by have := hd t ht s hs e; omega⟩
  obtain ⟨t, ht, h⟩ := far B
  have := hB t ht
  omega
theorem code_spec : ∀ {k : Nat} {left : List Nat}, left.Nodup → left.length = k → (∀ t ∈ left, ∀ s ∈ left, pc (g s) = t → d t < d s) → ∃ ord : List Nat, ord.Perm left ∧ code pc g k left = ord.map g ∧ strike pc (code pc g k left) left = ord.map fun t => (t, g t)
  | 0, left, nd, hl, hd => by
    have : left = [] := List.length_eq_zero_iff.mp hl
    subst this
    exact ⟨[], .refl _, rfl, rfl⟩
  | k + 1, left, nd, hl, hd => by
    obtain ⟨t1, t2⟩ := cand_pos (pc := pc) (g := g) (d := d) (left := left) (fun e => by rw [e] at hl; simp at hl) hd
    unfold code
    generalize ht' : minL (cand (left.map fun s => pc (g s)) left) = top at *
    obtain ⟨ord, o1, o2, o3⟩ := code_spec (k := k) (left := left.erase top) (nd.erase _) (by rw [List.length_erase_of_mem t1, hl]; rfl) fun t ht s hs e => hd t (List.mem_of_mem_erase ht) s (List.mem_of_mem_erase hs) e
    have perm : (top :: ord).Perm left := (o1.cons top).trans (List.perm_cons_erase t1).symm
    refine ⟨top :: ord, perm, by rw [o2]; rfl, ?_⟩
    rw [strike_eq nd]
    have : cand ((g top :: code pc g k (left.erase top)).map pc) left = cand (left.map fun s => pc (g s)) left := by
      apply cand_congr
      intro t
      rw [o2, show g top :: ord.map g = (top :: ord).map g from rfl, List.map_map]
      exact (perm.map (pc ∘ g)).mem_iff
    rw [this, ht', o3]
    rfl
theorem code_last : ∀ {k : Nat} {left : List Nat}, left.Nodup → left.length = k → (∀ t ∈ left, ∀ s ∈ left, pc (g s) = t → d t < d s) → (∀ t ∈ left, pc (g t) = 0 ∨ pc (g t) ∈ left) → ∀ p, (code pc g k left).getLast? = some p → pc p = 0
  | 0, left, nd, hl, hd, hc, p, hp => by
    simp [code] at hp
  | k + 1, left, nd, hl, hd, hc, p, hp => by
    obtain ⟨t1, t2⟩ := cand_pos (pc := pc) (g := g) (d := d) (left := left) (fun e => by rw [e] at hl; simp at hl) hd
    unfold code at hp
    generalize ht' : minL (cand (left.map fun s => pc (g s)) left) = top at *
    have hl2 : (left.erase top).length = k := by rw [List.length_erase_of_mem t1, hl]; rfl
    cases k with
    | zero =>
      have e1 : p = g top := by simpa [code] using hp.symm
      rcases hc top t1 with h | h
      · rw [e1]; exact h
      · exfalso
        have : pc (g top) ∈ left.map fun s => pc (g s) := List.mem_map.mpr ⟨top, t1, rfl⟩
        have hne : pc (g top) ≠ top := fun e => t2 (by rw [← e]; rw [e]; exact e ▸ this)
        have := (List.mem_erase_of_ne hne).mpr h
        rw [List.length_eq_zero_iff.mp hl2] at this
        exact List.not_mem_nil this
    | succ k =>
      refine code_last (k := k + 1) (left := left.erase top) (nd.erase _) hl2 (fun t ht s hs e => hd t (List.mem_of_mem_erase ht) s (List.mem_of_mem_erase hs) e) (fun t ht => ?_) p ?_
      · rcases hc t (List.mem_of_mem_erase ht) with h | h
        · exact .inl h
        · right
          refine (List.mem_erase_of_ne fun e => t2 ?_).mpr h
          exact List.mem_map.mpr ⟨t, List.mem_of_mem_erase ht, e⟩
      · have : ∃ a b, code pc g (k + 1) (left.erase top) = a :: b := ⟨_, _, rfl⟩
        obtain ⟨a, b, e⟩ := this
        rw [e, List.getLast?_cons_cons] at hp
        rw [e]
        exact hp
theorem code_back : ∀ {notes left : List Nat}, Nt pc notes left → (∀ q ∈ strike pc notes left, g q.1 = q.2) → code pc g left.length left = notes
  | [], left, h, _ => by
    have : left = [] := List.length_eq_zero_iff.mp h.len.symm
    subst this
    rfl
  | p :: r, left, h, hs => by
    obtain ⟨p1, p2⟩ := strike_perm h
    have perm : (p :: r).Perm (left.map g) := by
      have e : (strike pc (p :: r) left).map (·.2) = ((strike pc (p :: r) left).map (·.1)).map g := by
        rw [List.map_map]
        exact List.map_congr_left fun q hq => (hs q hq).symm
      rw [← p2, e]
      exact p1.map g
    have hc : cand (left.map fun s => pc (g s)) left = cand ((p :: r).map pc) left := by
      apply cand_congr
      intro t
      have := (perm.map pc).mem_iff (a := t)
      rw [List.map_map] at this
      exact this.symm
    rw [strike_eq h.nd] at hs
    obtain ⟨t1, t2⟩ := h.top
    have hl := h.len
    rw [List.length_cons] at hl
    rw [← hl]
    unfold code
    rw [hc]
    have e1 := hs _ List.mem_cons_self
    have tl := h.tail
    rw [show g (minL (cand ((p :: r).map pc) left)) = p from e1]
    have := code_back tl fun q hq => hs q (List.mem_cons_of_mem _ hq)
    rw [← tl.len] at this
    rw [this]
end
end Mt
end FV
set_option linter.all false
set_option maxRecDepth 100000
/-! The mathematics, part 2: numbers of codes; what is laid. -/
namespace FV
namespace Mt
def Dg : List (List Nat) → List Nat → Prop
  | [], ns => ns = []
  | l :: r, ns => ∃ n m, ns = n :: m ∧ n ∈ l ∧ Dg r m
def prd : List (List Nat) → Nat
  | [] => 1
  | l :: r => l.length * prd r
theorem getD_mem {l : List Nat} {i : Nat} (h : i < l.length) : l.getD i 0 ∈ l := by
  rw [List.getD_eq_getElem?_getD, List.getElem?_eq_getElem h]
  exact List.getElem_mem h
theorem nt_in : ∀ (ls : List (List Nat)) (m : Nat), (∀ l ∈ ls, l ≠ []) → Dg ls (notesAt ls m)
  | [], _, _ => rfl
  | l :: r, m, h => ⟨_, _, rfl, getD_mem (Nat.mod_lt _ (List.length_pos_iff.mpr (h l List.mem_cons_self))), nt_in r _ fun x hx => h x (List.mem_cons_of_mem _ hx)⟩
theorem nt_inj : ∀ (ls : List (List Nat)) (m m' : Nat), (∀ l ∈ ls, l.Nodup) → m < prd ls → m' < prd ls → notesAt ls m = notesAt ls m' → m = m'
  | [], m, m', _, h1, h2, _ => by
    have h1 : m < 1 := h1
    have h2 : m' < 1 := h2
    omega
  | l :: r, m, m', hn, h1, h2, e => by
    have h1 : m < l.length * prd r := h1
    have h2 : m' < l.length * prd r := h2
    have pos : 0 < l.length := by
      rcases Nat.eq_zero_or_pos l.length with z | z
      · rw [z, Nat.zero_mul] at h1
        exact absurd h1 (Nat.not_lt_zero _)
      · exact z
    unfold notesAt at e
    rw [List.cons.injEq] at e
    obtain ⟨e1, e2⟩ := e
    have i1 := Nat.mod_lt m pos
    have i2 := Nat.mod_lt m' pos
    rw [List.getD_eq_getElem?_getD, List.getD_eq_getElem?_getD, List.getElem?_eq_getElem i1, List.getElem?_eq_getElem i2] at e1
    have e3 : m % l.length = m' % l.length := (List.getElem_inj (hn l List.mem_cons_self)).mp e1
    have e4 := nt_inj r _ _ (fun x hx => hn x (List.mem_cons_of_mem _ hx)) (Nat.div_lt_of_lt_mul h1) (Nat.div_lt_of_lt_mul h2) e2
    have d1 := Nat.div_add_mod m l.length
    have d2 := Nat.div_add_mod m' l.length
    rw [e3, e4] at d1
    omega
theorem nt_surj : ∀ (ls : List (List Nat)) (ns : List Nat), Dg ls ns → ∃ m, m < prd ls ∧ notesAt ls m = ns
  | [], ns, h => ⟨0, by show 0 < 1; decide, by rw [show ns = [] from h]; rfl⟩
  | l :: r, ns, ⟨x, m, e, hx, h⟩ => by
    obtain ⟨k, k1, k2⟩ := nt_surj r m h
    obtain ⟨i, hi, e2⟩ := List.getElem_of_mem hx
    refine ⟨i + l.length * k, ?_, ?_⟩
    · show _ < l.length * prd r
      have : l.length * (k + 1) ≤ l.length * prd r := Nat.mul_le_mul_left _ k1
      rw [Nat.mul_add, Nat.mul_one] at this
      omega
    · unfold notesAt
      have a1 : (i + l.length * k) % l.length = i := by rw [Nat.add_mul_mod_self_left, Nat.mod_eq_of_lt hi]
      have a2 : (i + l.length * k) / l.length = k := by rw [Nat.add_mul_div_left _ _ (by omega), Nat.div_eq_of_lt hi, Nat.zero_add]
      rw [a1, a2, k2, e, List.getD_eq_getElem?_getD, List.getElem?_eq_getElem hi]
      show l[i] :: m = x :: m
      rw [e2]
theorem dg_app : ∀ {a b : List (List Nat)} {ns : List Nat}, Dg (a ++ b) ns ↔ ∃ x y, ns = x ++ y ∧ Dg a x ∧ Dg b y
  | [], b, ns => ⟨fun h => ⟨[], ns, rfl, rfl, h⟩, fun ⟨x, y, e, h1, h2⟩ => by
    rw [show x = [] from h1] at e
    rw [e]
    exact h2⟩
  | l :: a, b, ns => by
    constructor
    · rintro ⟨n, m, e, hn, h⟩
      obtain ⟨x, y, e2, h1, h2⟩ := dg_app.mp h
      exact ⟨n :: x, y, by rw [e, e2]; rfl, ⟨n, x, rfl, hn, h1⟩, h2⟩
    · rintro ⟨x, y, e, ⟨n, m, e2, hn, h1⟩, h2⟩
      exact ⟨n, m ++ y, by rw [e, e2]; rfl, hn, dg_app.mpr ⟨m, y, rfl, h1, h2⟩⟩
theorem dg_rev : ∀ {ls : List (List Nat)} {ns : List Nat}, Dg ls ns → Dg ls.reverse ns.reverse
  | [], ns, h => by
    rw [show ns = [] from h]
    exact rfl
  | l :: r, ns, ⟨x, m, e, hx, h⟩ => by
    rw [e, List.reverse_cons, List.reverse_cons]
    exact dg_app.mpr ⟨_, _, rfl, dg_rev h, ⟨x, [], rfl, hx, rfl⟩⟩
theorem dg_rev' {ls : List (List Nat)} {ns : List Nat} : Dg ls ns ↔ Dg ls.reverse ns.reverse := ⟨dg_rev, fun h => by
  have := dg_rev h
  rw [List.reverse_reverse, List.reverse_reverse] at this
  exact this⟩
theorem prd_app : ∀ a b : List (List Nat), prd (a ++ b) = prd a * prd b
  | [], b => (Nat.one_mul _).symm
  | l :: a, b => by
    show l.length * prd (a ++ b) = l.length * prd a * prd b
    rw [prd_app a b, Nat.mul_assoc]
theorem prd_rev : ∀ a : List (List Nat), prd a.reverse = prd a
  | [] => rfl
  | l :: a => by
    rw [List.reverse_cons, prd_app, prd_rev a]
    show prd a * (l.length * 1) = l.length * prd a
    rw [Nat.mul_one, Nat.mul_comm]
theorem prd_rep (E : List Nat) : ∀ k, prd (List.replicate k E) = E.length ^ k
  | 0 => rfl
  | k + 1 => by
    rw [List.replicate_succ, Nat.pow_succ, Nat.mul_comm]
    show E.length * prd _ = _
    rw [prd_rep E k]
theorem dg_rep {E : List Nat} : ∀ {k : Nat} {ns : List Nat}, Dg (List.replicate k E) ns ↔ ns.length = k ∧ ∀ p ∈ ns, p ∈ E
  | 0, ns => ⟨fun h => by
      rw [show ns = [] from h]
      exact ⟨rfl, fun p hp => absurd hp List.not_mem_nil⟩, fun h => List.length_eq_zero_iff.mp h.1⟩
  | k + 1, ns => by
    rw [List.replicate_succ]
    constructor
    · rintro ⟨x, m, e, hx, h⟩
      obtain ⟨h1, h2⟩ := dg_rep.mp h
      rw [e]
      refine ⟨by rw [List.length_cons, h1], fun p hp => ?_⟩
      rcases List.mem_cons.mp hp with rfl | hp
      · exact hx
      · exact h2 p hp
    · rintro ⟨h1, h2⟩
      cases ns with
      | nil => simp at h1
      | cons x m => exact ⟨x, m, rfl, h2 x List.mem_cons_self, dg_rep.mpr ⟨by simpa using h1, fun p hp => h2 p (List.mem_cons_of_mem _ hp)⟩⟩
/-- a list of all numbers of the digits: any row of notes, once -/
theorem all_notes {ls : List (List Nat)} (hn : ∀ l ∈ ls, l.Nodup) (hne : ∀ l ∈ ls, l ≠ []) : ((List.range (prd ls)).map fun m => (notesAt ls.reverse m).reverse).Nodup ∧ ∀ ns, ns ∈ ((List.range (prd ls)).map fun m => (notesAt ls.reverse m).reverse) ↔ Dg ls ns := by
  constructor
  · rw [List.Nodup, List.pairwise_map]
    refine List.nodup_range.imp_of_mem fun {a b} ha hb hab e => hab ?_
    have ha := List.mem_range.mp ha
    have hb := List.mem_range.mp hb
    rw [← prd_rev] at ha hb
    exact nt_inj ls.reverse a b (fun l hl => hn l (List.mem_reverse.mp hl)) ha hb (List.reverse_inj.mp e)
  · intro ns
    rw [List.mem_map]
    constructor
    · rintro ⟨m, hm, rfl⟩
      rw [dg_rev', List.reverse_reverse]
      exact nt_in _ _ fun l hl => hne l (List.mem_reverse.mp hl)
    · intro h
      obtain ⟨m, h1, h2⟩ := nt_surj _ _ (dg_rev h)
      rw [prd_rev] at h1
      exact ⟨m, List.mem_range.mpr h1, by rw [h2, List.reverse_reverse]⟩
/-! ### lists: lookup, sorting -/
theorem look_some {β : Type} : ∀ {l : List (Nat × β)} {k : Nat} {x : β}, l.lookup k = some x → (k, x) ∈ l
  | [], k, x, h => by simp at h
  | (j, y) :: l, k, x, h => by
    rw [List.lookup_cons] at h
    by_cases e : k = j
    · subst e
      rw [beq_self_eq_true] at h
      have : y = x := by simpa using h
      rw [this]
      exact List.mem_cons_self
    · rw [beq_eq_false_iff_ne.mpr e] at h
      exact List.mem_cons_of_mem _ (look_some h)
theorem look_mem2 {β : Type} : ∀ {l : List (Nat × β)} {q : Nat × β}, (l.map (·.1)).Nodup → q ∈ l → l.lookup q.1 = some q.2
  | (j, y) :: l, q, nd, h => by
    rw [List.lookup_cons]
    rw [List.map_cons, List.nodup_cons] at nd
    rcases List.mem_cons.mp h with rfl | h
    · rw [beq_self_eq_true]
    · have : q.1 ≠ j := fun e => nd.1 (by rw [← e]; exact List.mem_map.mpr ⟨q, h, rfl⟩)
      rw [beq_eq_false_iff_ne.mpr this]
      exact look_mem2 nd.2 h
theorem look_key {β : Type} {l : List (Nat × β)} {k : Nat} (h : k ∈ l.map (·.1)) (nd : (l.map (·.1)).Nodup) : ∃ x, l.lookup k = some x ∧ (k, x) ∈ l := by
  obtain ⟨q, hq, rfl⟩ := List.mem_map.mp h
  exact ⟨q.2, look_mem2 nd hq, hq⟩
theorem insN_perm (x : Nat) : ∀ l, (insN x l).Perm (x :: l)
  | [] => .refl _
  | y :: r => by
    unfold insN
    split
    · exact .refl _
    · exact ((insN_perm x r).cons y).trans (.swap x y r)
theorem sortN_perm : ∀ l, (sortN l).Perm l
  | [] => .refl _
  | x :: r => (insN_perm x _).trans ((sortN_perm r).cons x)
theorem insN_sorted (x : Nat) : ∀ l, l.Pairwise (· ≤ ·) → (insN x l).Pairwise (· ≤ ·)
  | [], _ => by simp [insN]
  | y :: r, h => by
    unfold insN
    rw [List.pairwise_cons] at h
    split
    · rename_i q
      rw [List.pairwise_cons]
      refine ⟨fun z hz => ?_, List.pairwise_cons.mpr h⟩
      rcases List.mem_cons.mp hz with rfl | hz
      · exact q
      · exact Nat.le_trans q (h.1 z hz)
    · rename_i q
      rw [List.pairwise_cons]
      refine ⟨fun z hz => ?_, insN_sorted x r h.2⟩
      rcases List.mem_cons.mp ((insN_perm x r).mem_iff.mp hz) with rfl | hz
      · omega
      · exact h.1 z hz
theorem sortN_sorted : ∀ l, (sortN l).Pairwise (· ≤ ·)
  | [] => .nil
  | x :: r => insN_sorted x _ (sortN_sorted r)
theorem dedup_spec : ∀ (l acc : List Nat), acc.Nodup → (dedup l acc).Nodup ∧ ∀ t, t ∈ dedup l acc ↔ t ∈ acc ∨ t ∈ l
  | [], acc, h => ⟨h, fun t => by simp [dedup]⟩
  | x :: r, acc, h => by
    unfold dedup
    by_cases q : acc.contains x = true
    · rw [if_pos q]
      obtain ⟨h1, h2⟩ := dedup_spec r acc h
      refine ⟨h1, fun t => ?_⟩
      rw [h2, List.mem_cons]
      have := List.contains_iff_mem.mp q
      constructor
      · rintro (h | h)
        · exact .inl h
        · exact .inr (.inr h)
      · rintro (h | rfl | h)
        · exact .inl h
        · exact .inl this
        · exact .inr h
    · rw [if_neg q]
      have nx : x ∉ acc := fun h => q (List.contains_iff_mem.mpr h)
      obtain ⟨h1, h2⟩ := dedup_spec r (acc ++ [x]) (by
        rw [List.nodup_append]
        refine ⟨h, by simp, fun a ha b hb e => ?_⟩
        have : b = x := by simpa using hb
        rw [e, this] at ha
        exact nx ha)
      refine ⟨h1, fun t => ?_⟩
      rw [h2, List.mem_append, List.mem_singleton, List.mem_cons]
      constructor
      · rintro ((h | h) | h)
        · exact .inl h
        · exact .inr (.inl h)
        · exact .inr (.inr h)
      · rintro (h | h | h)
        · exact .inl (.inl h)
        · exact .inl (.inr h)
        · exact .inr h
/-! ### ways -/
section
variable {ties : List (Nat × Nat)}
theorem way_more : ∀ {f x : Nat} {w : List Nat}, wayU ties f x = some w → wayU ties (f + 1) x = some w
  | 0, x, w, h => by simp [wayU] at h
  | f + 1, x, w, h => by
    unfold wayU at h ⊢
    cases e : ties.lookup x with
    | none => rw [e] at h; exact h
    | some y =>
      rw [e] at h
      simp only [Option.map_eq_some_iff] at h ⊢
      obtain ⟨w', h1, h2⟩ := h
      exact ⟨w', way_more h1, h2⟩
theorem way_none {f x : Nat} (e : ties.lookup x = none) : wayU ties (f + 1) x = some [x] := by
  unfold wayU
  rw [e]
theorem way_some {f x y : Nat} {w : List Nat} (e : ties.lookup x = some y) (h : wayU ties (f + 1) x = some w) : ∃ w', w = x :: w' ∧ wayU ties (f + 1) y = some w' := by
  unfold wayU at h
  rw [e] at h
  simp only [Option.map_eq_some_iff] at h
  obtain ⟨w', h1, h2⟩ := h
  exact ⟨w', h2.symm, way_more h1⟩
end
theorem allSome_eq : ∀ {l : List (Option (List Nat))} {r : List (List Nat)}, allSome l = some r → l = r.map some
  | [], r, h => by
    have : r = [] := by simpa [allSome] using h.symm
    rw [this]
    rfl
  | none :: _, r, h => by simp [allSome] at h
  | some x :: l, r, h => by
    simp only [allSome, Option.map_eq_some_iff] at h
    obtain ⟨a, h1, h2⟩ := h
    rw [← h2, allSome_eq h1]
    rfl
theorem allSome_of : ∀ {l : List (Option (List Nat))}, (∀ o ∈ l, o ≠ none) → ∃ r, allSome l = some r
  | [], _ => ⟨[], rfl⟩
  | none :: _, h => absurd rfl (h none List.mem_cons_self)
  | some x :: l, h => by
    obtain ⟨r, hr⟩ := allSome_of fun o ho => h o (List.mem_cons_of_mem _ ho)
    exact ⟨x :: r, by simp [allSome, hr]⟩
/-- ties and ways, right -/
structure Tw (n : Nat) (ties : List (Nat × Nat)) (ways : List (List Nat)) : Prop where
  z : ties.lookup 0 = none
  r : ∀ b y, ties.lookup b = some y → 1 ≤ b ∧ b ≤ n ∧ y ≤ n
  w : allSome ((List.range (n + 1)).map fun p => wayU ties (n + 1) p) = some ways
section
variable {n : Nat} {ties : List (Nat × Nat)} {ways : List (List Nat)}
theorem Tw.len (T : Tw n ties ways) : ways.length = n + 1 := by
  have := congrArg List.length (allSome_eq T.w)
  simpa using this.symm
theorem Tw.at (T : Tw n ties ways) {x : Nat} (hx : x ≤ n) : wayU ties (n + 1) x = some (ways.getD x []) := by
  have h := congrArg (fun l : List (Option (List Nat)) => l[x]?) (allSome_eq T.w)
  simp only [List.getElem?_map] at h
  rw [List.getElem?_range (by omega)] at h
  rw [List.getD_eq_getElem?_getD]
  have hl := T.len
  rw [List.getElem?_eq_getElem (by omega : x < ways.length)] at h ⊢
  simpa using h
theorem Tw.none (T : Tw n ties ways) {x : Nat} (hx : x ≤ n) (e : ties.lookup x = none) : ways.getD x [] = [x] := by
  have := T.at hx
  rw [way_none e] at this
  exact (Option.some.inj this).symm
theorem Tw.some (T : Tw n ties ways) {x y : Nat} (e : ties.lookup x = some y) : ways.getD x [] = x :: ways.getD y [] := by
  obtain ⟨h1, h2, h3⟩ := T.r x y e
  obtain ⟨w', e1, e2⟩ := way_some e (T.at h2)
  rw [T.at h3] at e2
  rw [e1, Option.some.inj e2]
theorem Tw.ne (T : Tw n ties ways) {x : Nat} (hx : x ≤ n) : ways.getD x [] ≠ [] := by
  cases e : ties.lookup x with
  | none => rw [T.none hx e]; simp
  | some y => rw [T.some e]; simp
abbrev pcW (ways : List (List Nat)) (x : Nat) : Nat := (ways.map fun w => w.getLastD 0).getD x 0
theorem pcW_eq (T : Tw n ties ways) {x : Nat} (hx : x ≤ n) : pcW ways x = (ways.getD x []).getLastD 0 := by
  have hl := T.len
  unfold pcW
  rw [List.getD_eq_getElem?_getD, List.getElem?_map, List.getD_eq_getElem?_getD, List.getElem?_eq_getElem (by omega : x < ways.length)]
  rfl
theorem lastD_cons {a d : Nat} {l : List Nat} (h : l ≠ []) : (a :: l).getLastD d = l.getLastD d := by
  cases l with
  | nil => exact absurd rfl h
  | cons b r => rfl
theorem Tw.fo (T : Tw n ties ways) : Fo n (fun x => ties.lookup x) (pcW ways) (fun x => (ways.getD x []).length) where
  up0 := T.z
  upr := T.r
  pcs x y e := by
    obtain ⟨h1, h2, h3⟩ := T.r x y e
    rw [pcW_eq T h2, pcW_eq T h3, T.some e, lastD_cons (T.ne h3)]
  pct x hx e := by
    rw [pcW_eq T hx, T.none hx e]
    rfl
  dec x y e := by
    show (ways.getD y []).length < (ways.getD x []).length
    rw [T.some e]
    exact Nat.lt_succ_self _
end
end Mt
end FV
set_option linter.all false
set_option maxRecDepth 100000
/-! The mathematics, part 3: the trees of what is laid. -/
namespace FV
namespace Mt
/-- a tree of n blocks -/
structure IsT (n : Nat) (h : List Nat) : Prop where
  len : h.length = n
  le : ∀ b, 1 ≤ b → b ≤ n → hangAt h b ≤ n
  home : ∀ x, x ≤ n → iter (upOf h) n x = 0
theorem upOf_z (h : List Nat) : upOf h 0 = 0 := rfl
theorem upOf_p {h : List Nat} {x : Nat} (hx : 1 ≤ x) : upOf h x = hangAt h x := by
  unfold upOf
  rw [if_pos (by omega)]
theorem hang_map {n b : Nat} (f : Nat → Nat) (h1 : 1 ≤ b) (h2 : b ≤ n) : hangAt ((blocksOf n).map f) b = f b := by
  unfold hangAt blocksOf
  rw [List.getD_eq_getElem?_getD, List.map_map, List.getElem?_map, List.getElem?_range (by omega)]
  show f (b - 1 + 1) = f b
  congr 1
  omega
theorem hang_ext {n : Nat} {a b : List Nat} (ha : a.length = n) (hb : b.length = n) (h : ∀ x, 1 ≤ x → x ≤ n → hangAt a x = hangAt b x) : a = b := by
  apply List.ext_getElem (by rw [ha, hb])
  intro i h1 h2
  have := h (i + 1) (by omega) (by omega)
  unfold hangAt at this
  rw [List.getD_eq_getElem?_getD, List.getD_eq_getElem?_getD] at this
  simp only [Nat.add_sub_cancel] at this
  rw [List.getElem?_eq_getElem h1, List.getElem?_eq_getElem h2] at this
  exact this
section
variable {P : Pic} {ties : List (Nat × Nat)} {ways : List (List Nat)}
/-- a place is open -/
def Op (P : Pic) (ways : List (List Nat)) (p : Nat) : Prop := ∀ x ∈ (ways.getD p []).take P.view.2, x ∉ P.told.map (·.1)
def Con (ties : List (Nat × Nat)) (h : List Nat) : Prop := ∀ b y, ties.lookup b = some y → hangAt h b = y
def Opn (P : Pic) (ties : List (Nat × Nat)) (ways : List (List Nat)) (h : List Nat) : Prop := ∀ t, 1 ≤ t → t ≤ P.blocks → ties.lookup t = none → Op P ways (hangAt h t)
abbrev rst (P : Pic) (ties : List (Nat × Nat)) (ways : List (List Nat)) : List Nat := (mkLaid P ties ways).tops.drop 1
theorem tops_nd : (mkLaid P ties ways).tops.Nodup := (sortN_perm _).symm.nodup_iff.mp (dedup_spec _ [] .nil).1
theorem tops_mem (T : Tw P.blocks ties ways) {t : Nat} : t ∈ (mkLaid P ties ways).tops ↔ t ≤ P.blocks ∧ ties.lookup t = none := by
  have e : t ∈ (mkLaid P ties ways).tops ↔ t ∈ ways.map fun w => w.getLastD 0 := by
    show t ∈ sortN (dedup (ways.map fun w => w.getLastD 0) []) ↔ _
    rw [(sortN_perm _).mem_iff, (dedup_spec _ [] .nil).2]
    simp
  rw [e]
  have hl := T.len
  constructor
  · intro h
    obtain ⟨i, hi, e⟩ := List.getElem_of_mem h
    rw [List.length_map] at hi
    have e2 : pcW ways i = t := by
      unfold pcW
      rw [List.getD_eq_getElem?_getD, List.getElem?_eq_getElem (by rw [List.length_map]; exact hi), ← e]
      rfl
    have := T.fo.tp (x := i) (by omega)
    rw [e2] at this
    exact ⟨this.2, this.1⟩
  · rintro ⟨h1, h2⟩
    have := T.fo.pct t h1 h2
    rw [← this]
    unfold pcW
    exact getD_mem (by rw [List.length_map]; omega)
theorem tops_eq (T : Tw P.blocks ties ways) : (mkLaid P ties ways).tops = 0 :: rst P ties ways := by
  have h0 : 0 ∈ (mkLaid P ties ways).tops := (tops_mem T).mpr ⟨Nat.zero_le _, T.z⟩
  have hs : (mkLaid P ties ways).tops.Pairwise (· ≤ ·) := sortN_sorted _
  unfold rst
  cases e : (mkLaid P ties ways).tops with
  | nil => rw [e] at h0; exact absurd h0 List.not_mem_nil
  | cons a r =>
    rw [e] at h0 hs
    rcases List.mem_cons.mp h0 with h | h
    · rw [← h]; rfl
    · have := (List.pairwise_cons.mp hs).1 0 h
      have : a = 0 := by omega
      rw [this]; rfl
theorem rst_nd (T : Tw P.blocks ties ways) : (rst P ties ways).Nodup ∧ 0 ∉ rst P ties ways := by
  have := tops_nd (P := P) (ties := ties) (ways := ways)
  rw [tops_eq T, List.nodup_cons] at this
  exact ⟨this.2, this.1⟩
theorem rst_mem (T : Tw P.blocks ties ways) {t : Nat} : t ∈ rst P ties ways ↔ 1 ≤ t ∧ t ≤ P.blocks ∧ ties.lookup t = none := by
  have h := tops_mem T (t := t)
  rw [tops_eq T, List.mem_cons] at h
  obtain ⟨nd, n0⟩ := rst_nd T
  constructor
  · intro ht
    have := h.mp (.inr ht)
    refine ⟨Nat.pos_of_ne_zero fun e => n0 (by rw [← e]; exact ht), this⟩
  · rintro ⟨h1, h2⟩
    rcases h.mpr h2 with e | e
    · omega
    · exact e
theorem every_mem (T : Tw P.blocks ties ways) {p : Nat} : p ∈ (mkLaid P ties ways).every ↔ p ≤ P.blocks ∧ Op P ways p := by
  show p ∈ (List.range ways.length).filter _ ↔ _
  rw [List.mem_filter, List.mem_range, T.len]
  unfold Op
  simp only [Bool.not_eq_true', List.any_eq_false, List.contains_iff_mem]
  constructor
  · rintro ⟨h1, h2⟩
    exact ⟨by omega, h2⟩
  · rintro ⟨h1, h2⟩
    exact ⟨by omega, h2⟩
theorem lot_eq (T : Tw P.blocks ties ways) : (mkLaid P ties ways).lots.getD 0 [] = (mkLaid P ties ways).every.filter fun p => pcW ways p == 0 := by
  have e : (mkLaid P ties ways).lots = (mkLaid P ties ways).tops.map fun t => (mkLaid P ties ways).every.filter fun p => pcW ways p == t := rfl
  rw [e, tops_eq T]
  rfl
theorem lot_mem (T : Tw P.blocks ties ways) {p : Nat} : p ∈ (mkLaid P ties ways).lots.getD 0 [] ↔ p ≤ P.blocks ∧ Op P ways p ∧ pcW ways p = 0 := by
  rw [lot_eq T, List.mem_filter, every_mem T, beq_iff_eq, and_assoc]
theorem every_nd : (mkLaid P ties ways).every.Nodup := List.Pairwise.filter _ List.nodup_range
theorem digits_nil (h : rst P ties ways = []) (T : Tw P.blocks ties ways) : (mkLaid P ties ways).digits = [] := by
  unfold Ld.digits
  rw [tops_eq T, h]
  rfl
theorem digits_cons {k : Nat} (h : (rst P ties ways).length = k + 1) (T : Tw P.blocks ties ways) : (mkLaid P ties ways).digits = List.replicate k (mkLaid P ties ways).every ++ [(mkLaid P ties ways).lots.getD 0 []] := by
  unfold Ld.digits
  have e : (mkLaid P ties ways).tops.length = k + 2 := by rw [tops_eq T, List.length_cons, h]
  rw [if_pos (by omega), e]
  rfl
theorem dg_iff (T : Tw P.blocks ties ways) {ns : List Nat} : Dg (mkLaid P ties ways).digits ns ↔ ns.length = (rst P ties ways).length ∧ (∀ p ∈ ns, p ≤ P.blocks ∧ Op P ways p) ∧ ∀ p, ns.getLast? = some p → pcW ways p = 0 := by
  cases hk : (rst P ties ways).length with
  | zero =>
    rw [digits_nil (List.length_eq_zero_iff.mp hk) T]
    constructor
    · intro h
      rw [show ns = [] from h]
      exact ⟨rfl, fun p hp => absurd hp List.not_mem_nil, fun p hp => by simp at hp⟩
    · rintro ⟨h, _⟩
      exact List.length_eq_zero_iff.mp h
  | succ k =>
    rw [digits_cons hk T, dg_app]
    constructor
    · rintro ⟨x, y, e, h1, ⟨p, m, e2, hp, h2⟩⟩
      rw [show m = [] from h2] at e2
      obtain ⟨g1, g2⟩ := dg_rep.mp h1
      obtain ⟨l1, l2, l3⟩ := (lot_mem T).mp hp
      rw [e, e2]
      refine ⟨by rw [List.length_append, g1]; rfl, fun q hq => ?_, fun q hq => ?_⟩
      · rcases List.mem_append.mp hq with hq | hq
        · exact (every_mem T).mp (g2 q hq)
        · have : q = p := by simpa using hq
          rw [this]
          exact ⟨l1, l2⟩
      · rw [List.getLast?_append] at hq
        have : p = q := by simpa using hq
        rw [← this]
        exact l3
    · rintro ⟨h1, h2, h3⟩
      have hne : ns ≠ [] := fun e => by rw [e] at h1; simp at h1
      have e := (List.dropLast_concat_getLast hne).symm
      refine ⟨ns.dropLast, [ns.getLast hne], e, dg_rep.mpr ⟨by rw [List.length_dropLast, h1]; rfl, fun p hp => (every_mem T).mpr (h2 p (List.dropLast_subset _ hp))⟩, ⟨_, [], rfl, (lot_mem T).mpr ?_, rfl⟩⟩
      obtain ⟨a, b⟩ := h2 _ (List.getLast_mem hne)
      exact ⟨a, b, h3 _ (List.getLast?_eq_some_getLast hne)⟩
theorem dg_nt (T : Tw P.blocks ties ways) {ns : List Nat} (h : Dg (mkLaid P ties ways).digits ns) : Nt (pcW ways) ns (rst P ties ways) := by
  obtain ⟨h1, h2, h3⟩ := (dg_iff T).mp h
  exact ⟨(rst_nd T).1, h1, (rst_nd T).2, h3⟩
theorem hb_len (ns : List Nat) : ((mkLaid P ties ways).hungBy ns).length = P.blocks := by
  unfold Ld.hungBy
  rw [List.length_map]
  exact blk_len
theorem hb_at {ns : List Nat} {b : Nat} (h1 : 1 ≤ b) (h2 : b ≤ P.blocks) : hangAt ((mkLaid P ties ways).hungBy ns) b = ((ties ++ strike (pcW ways) ns (rst P ties ways)).lookup b).getD 0 := hang_map _ h1 h2
theorem hb_up (T : Tw P.blocks ties ways) (ns : List Nat) : Con ties ((mkLaid P ties ways).hungBy ns) := fun b y e => by
  obtain ⟨h1, h2, _⟩ := T.r b y e
  rw [hb_at h1 h2, List.lookup_append, e]
  rfl
theorem hb_st (T : Tw P.blocks ties ways) {ns : List Nat} (N : Nt (pcW ways) ns (rst P ties ways)) {q : Nat × Nat} (hq : q ∈ strike (pcW ways) ns (rst P ties ways)) : hangAt ((mkLaid P ties ways).hungBy ns) q.1 = q.2 := by
  obtain ⟨p1, p2⟩ := strike_perm N
  have hm : q.1 ∈ rst P ties ways := p1.mem_iff.mp (List.mem_map.mpr ⟨q, hq, rfl⟩)
  obtain ⟨h1, h2, h3⟩ := (rst_mem T).mp hm
  have nd : ((strike (pcW ways) ns (rst P ties ways)).map (·.1)).Nodup := p1.symm.nodup_iff.mp N.nd
  rw [hb_at h1 h2, List.lookup_append, h3, look_mem2 nd hq]
  rfl
theorem pc_in (T : Tw P.blocks ties ways) {x : Nat} (hx : x ≤ P.blocks) : pcW ways x = 0 ∨ pcW ways x ∈ rst P ties ways := by
  obtain ⟨h1, h2⟩ := T.fo.tp hx
  have := (tops_mem (P := P) T).mpr ⟨h2, h1⟩
  rw [tops_eq T] at this
  exact List.mem_cons.mp this
theorem tree_of (T : Tw P.blocks ties ways) {ns : List Nat} (h : Dg (mkLaid P ties ways).digits ns) : IsT P.blocks ((mkLaid P ties ways).hungBy ns) ∧ Con ties ((mkLaid P ties ways).hungBy ns) ∧ Opn P ties ways ((mkLaid P ties ways).hungBy ns) := by
  have N := dg_nt T h
  obtain ⟨d1, d2, d3⟩ := (dg_iff T).mp h
  obtain ⟨p1, p2⟩ := strike_perm N
  have C := hb_up T ns
  have top : ∀ t, 1 ≤ t → t ≤ P.blocks → ties.lookup t = none → hangAt ((mkLaid P ties ways).hungBy ns) t ∈ ns := fun t h1 h2 h3 => by
    have hm := (rst_mem T).mpr ⟨h1, h2, h3⟩
    obtain ⟨q, hq, e⟩ := List.mem_map.mp (p1.symm.mem_iff.mp hm)
    have := hb_st T N hq
    rw [e] at this
    rw [this, ← p2]
    exact List.mem_map.mpr ⟨q, hq, rfl⟩
  have le : ∀ b, 1 ≤ b → b ≤ P.blocks → hangAt ((mkLaid P ties ways).hungBy ns) b ≤ P.blocks := fun b h1 h2 => by
    cases e : ties.lookup b with
    | none => exact (d2 _ (top b h1 h2 e)).1
    | some y =>
      rw [C b y e]
      exact (T.r b y e).2.2
  refine ⟨⟨hb_len ns, le, ?_⟩, C, fun t h1 h2 h3 => (d2 _ (top t h1 h2 h3)).2⟩
  refine home_tree (upOf_z _) (fun x h1 h2 => by rw [upOf_p h1]; exact le x h1 h2) fun x hx => ?_
  refine strike_home T.fo (u := upOf ((mkLaid P ties ways).hungBy ns)) (fun x y e => ?_) N (fun p hp => ⟨(d2 p hp).1, pc_in T (d2 p hp).1⟩) (fun q hq => ?_) x hx (pc_in T hx)
  · rw [upOf_p (T.r x y e).1]
    exact C x y e
  · have hm : q.1 ∈ rst P ties ways := p1.mem_iff.mp (List.mem_map.mpr ⟨q, hq, rfl⟩)
    rw [upOf_p ((rst_mem T).mp hm).1]
    exact hb_st T N hq
theorem dep_pc (T : Tw P.blocks ties ways) {h : List Nat} (I : IsT P.blocks h) (C : Con ties h) : ∀ k x, (ways.getD x []).length < k → x ≤ P.blocks → dep (upOf h) P.blocks (pcW ways x) ≤ dep (upOf h) P.blocks x
  | 0, x, hk, _ => absurd hk (Nat.not_lt_zero _)
  | k + 1, x, hk, hx => by
    cases e : ties.lookup x with
    | none =>
      rw [T.fo.pct x hx e]
      exact Nat.le_refl _
    | some y =>
      obtain ⟨h1, h2, h3⟩ := T.r x y e
      rw [T.fo.pcs x y e]
      have i1 := dep_pc T I C k y (by have := T.fo.dec x y e; omega) h3
      have i2 := dep_up (upOf_z h) (I.home x h2) (by omega)
      rw [upOf_p h1, C x y e] at i2
      omega
theorem code_of (T : Tw P.blocks ties ways) {h : List Nat} (I : IsT P.blocks h) (C : Con ties h) (O : Opn P ties ways h) : ∃ ns, Dg (mkLaid P ties ways).digits ns ∧ (mkLaid P ties ways).hungBy ns = h := by
  have hd : ∀ t ∈ rst P ties ways, ∀ s ∈ rst P ties ways, pcW ways (hangAt h s) = t → dep (upOf h) P.blocks t < dep (upOf h) P.blocks s := fun t ht s hs e => by
    obtain ⟨s1, s2, s3⟩ := (rst_mem T).mp hs
    have i1 := dep_pc T I C _ (hangAt h s) (Nat.lt_succ_self _) (I.le s s1 s2)
    have i2 := dep_up (upOf_z h) (I.home s s2) (by omega)
    rw [upOf_p s1] at i2
    rw [e] at i1
    omega
  obtain ⟨ord, o1, o2, o3⟩ := code_spec (pc := pcW ways) (g := hangAt h) (d := dep (upOf h) P.blocks) (rst_nd T).1 rfl hd
  have hl := code_last (pc := pcW ways) (g := hangAt h) (d := dep (upOf h) P.blocks) (rst_nd T).1 rfl hd fun t ht => by
    obtain ⟨s1, s2, s3⟩ := (rst_mem T).mp ht
    exact pc_in T (I.le t s1 s2)
  have D : Dg (mkLaid P ties ways).digits (code (pcW ways) (hangAt h) (rst P ties ways).length (rst P ties ways)) := by
    refine (dg_iff T).mpr ⟨by rw [o2, List.length_map, o1.length_eq], fun p hp => ?_, hl⟩
    rw [o2] at hp
    obtain ⟨t, ht, rfl⟩ := List.mem_map.mp hp
    obtain ⟨s1, s2, s3⟩ := (rst_mem T).mp (o1.mem_iff.mp ht)
    exact ⟨I.le t s1 s2, O t s1 s2 s3⟩
  refine ⟨_, D, hang_ext (hb_len _) I.len fun x h1 h2 => ?_⟩
  cases e : ties.lookup x with
  | some y => rw [hb_up T _ x y e, C x y e]
  | none =>
    have hm := (rst_mem T).mpr ⟨h1, h2, e⟩
    have := hb_st T (dg_nt T D) (q := (x, hangAt h x)) (by rw [o3]; exact List.mem_map.mpr ⟨x, o1.symm.mem_iff.mp hm, rfl⟩)
    exact this
theorem code_inj (T : Tw P.blocks ties ways) {a b : List Nat} (ha : Dg (mkLaid P ties ways).digits a) (hb : Dg (mkLaid P ties ways).digits b) (e : (mkLaid P ties ways).hungBy a = (mkLaid P ties ways).hungBy b) : a = b := by
  have h1 := code_back (g := hangAt ((mkLaid P ties ways).hungBy a)) (dg_nt T ha) fun q hq => hb_st T (dg_nt T ha) hq
  have h2 := code_back (g := hangAt ((mkLaid P ties ways).hungBy b)) (dg_nt T hb) fun q hq => hb_st T (dg_nt T hb) hq
  rw [e] at h1
  exact h1.symm.trans h2
theorem many_prd (T : Tw P.blocks ties ways) : (mkLaid P ties ways).many = prd (mkLaid P ties ways).digits := by
  unfold Ld.many
  cases hk : (rst P ties ways).length with
  | zero =>
    rw [digits_nil (List.length_eq_zero_iff.mp hk) T, tops_eq T, if_pos (by rw [List.length_cons, hk])]
    rfl
  | succ k =>
    rw [digits_cons hk T, prd_app, prd_rep, tops_eq T, if_neg (by rw [List.length_cons, hk]; omega), List.length_cons, hk, Nat.mul_comm]
    show _ = _ * (_ * 1)
    rw [Nat.mul_one]
    rfl
/-- what is laid, with places to hang under -/
def Gd (L : Ld) : Prop := ¬ (L.tops.length > 1 ∧ (L.lots.getD 0 []).length = 0)
theorem digits_ok (T : Tw P.blocks ties ways) (hg : Gd (mkLaid P ties ways)) : ∀ l ∈ (mkLaid P ties ways).digits, l ≠ [] ∧ l.Nodup := by
  cases hk : (rst P ties ways).length with
  | zero =>
    rw [digits_nil (List.length_eq_zero_iff.mp hk) T]
    exact fun l hl => absurd hl List.not_mem_nil
  | succ k =>
    have hlot : (mkLaid P ties ways).lots.getD 0 [] ≠ [] := fun e => hg ⟨by rw [tops_eq T, List.length_cons, hk]; omega, by rw [e]; rfl⟩
    rw [digits_cons hk T]
    intro l hl
    rcases List.mem_append.mp hl with hl | hl
    · have := (List.mem_replicate.mp hl).2
      rw [this]
      refine ⟨fun e => ?_, every_nd⟩
      rw [lot_eq T, e] at hlot
      exact hlot rfl
    · have : l = _ := List.mem_singleton.mp hl
      rw [this]
      refine ⟨hlot, ?_⟩
      rw [lot_eq T]
      exact List.Pairwise.filter _ every_nd
theorem trees_laid (T : Tw P.blocks ties ways) (hg : Gd (mkLaid P ties ways)) : ((List.range (mkLaid P ties ways).many).map (mkLaid P ties ways).treeAt).Nodup ∧ ∀ h, h ∈ (List.range (mkLaid P ties ways).many).map (mkLaid P ties ways).treeAt ↔ IsT P.blocks h ∧ Con ties h ∧ Opn P ties ways h := by
  have dk := digits_ok T hg
  obtain ⟨n1, n2⟩ := all_notes (ls := (mkLaid P ties ways).digits) (fun l hl => (dk l hl).2) fun l hl => (dk l hl).1
  have e : (List.range (mkLaid P ties ways).many).map (mkLaid P ties ways).treeAt = ((List.range (prd (mkLaid P ties ways).digits)).map fun m => (notesAt (mkLaid P ties ways).digits.reverse m).reverse).map (mkLaid P ties ways).hungBy := by
    rw [List.map_map, many_prd T]
    rfl
  rw [e]
  constructor
  · rw [List.Nodup, List.pairwise_map]
    refine n1.imp_of_mem fun {a b} ha hb hab e => hab (code_inj T ((n2 a).mp ha) ((n2 b).mp hb) e)
  · intro h
    rw [List.mem_map]
    constructor
    · rintro ⟨ns, hn, rfl⟩
      exact tree_of T ((n2 ns).mp hn)
    · rintro ⟨h1, h2, h3⟩
      obtain ⟨ns, g1, g2⟩ := code_of T h1 h2 h3
      exact ⟨ns, (n2 ns).mpr g1, g2⟩
end
end Mt
end FV
set_option linter.all false
set_option maxRecDepth 100000
/-! The mathematics, part 4: laid trees are just those that fit. -/
namespace FV
namespace Mt
theorem insP_perm (x : Nat × Nat) : ∀ l, (insP x l).Perm (x :: l)
  | [] => .refl _
  | y :: r => by
    unfold insP
    split
    · exact .refl _
    · exact ((insP_perm x r).cons y).trans (.swap x y r)
theorem sortP_perm : ∀ l, (sortP l).Perm l
  | [] => .refl _
  | x :: r => (insP_perm x _).trans ((sortP_perm r).cons x)
/-- a right picture -/
structure Pk (Q : Pic) : Prop where
  nd : (Q.told.map (·.1)).Nodup
  key : ∀ q ∈ Q.told, q.1 ≤ Q.blocks
  row0 : ∀ q ∈ Q.told, q.1 = 0 → q.2.1 = []
  row : ∀ q ∈ Q.told, ∀ x ∈ q.2.1, x ≤ Q.blocks
  tie : ∀ q ∈ Q.told, ∀ e ∈ q.2.2, 1 ≤ e.1 ∧ e.1 ≤ Q.blocks ∧ e.2 ≤ Q.blocks
theorem tk : ∀ {l acc t : List (Nat × Nat)}, tiesK l acc = some t → (∀ k v, acc.lookup k = some v → t.lookup k = some v) ∧ (∀ e ∈ l, e.1 ≠ 0 ∧ t.lookup e.1 = some e.2) ∧ (∀ e ∈ t, e ∈ acc ∨ e ∈ l) ∧ ((acc.map (·.1)).Nodup → (t.map (·.1)).Nodup)
  | [], acc, t, h => by
    have : acc = t := by simpa [tiesK] using h
    subst this
    exact ⟨fun _ _ h => h, fun e he => absurd he List.not_mem_nil, fun e he => .inl he, fun h => h⟩
  | (b, p) :: r, acc, t, h => by
    unfold tiesK at h
    split at h
    · cases h
    · rename_i hb
      cases e : acc.lookup b with
      | some q =>
        rw [e] at h
        simp only at h
        split at h
        · rename_i hq
          subst hq
          obtain ⟨h1, h2, h3, h4⟩ := tk h
          refine ⟨h1, fun x hx => ?_, fun x hx => ?_, h4⟩
          · rcases List.mem_cons.mp hx with rfl | hx
            · exact ⟨hb, h1 _ _ e⟩
            · exact h2 x hx
          · rcases h3 x hx with h | h
            · exact .inl h
            · exact .inr (List.mem_cons_of_mem _ h)
        · cases h
      | none =>
        rw [e] at h
        simp only at h
        obtain ⟨h1, h2, h3, h4⟩ := tk h
        have self : (acc ++ [(b, p)]).lookup b = some p := by
          rw [List.lookup_append, e]
          simp [List.lookup_cons]
        refine ⟨fun k v hk => h1 k v (by rw [List.lookup_append, hk]; rfl), fun x hx => ?_, fun x hx => ?_, fun nd => h4 ?_⟩
        · rcases List.mem_cons.mp hx with rfl | hx
          · exact ⟨hb, h1 _ _ self⟩
          · exact h2 x hx
        · rcases h3 x hx with h | h
          · rcases List.mem_append.mp h with h | h
            · exact .inl h
            · right
              rw [List.mem_singleton.mp h]
              exact List.mem_cons_self
          · exact .inr (List.mem_cons_of_mem _ h)
        · rw [List.map_append, List.nodup_append]
          refine ⟨nd, by simp, fun x hx y hy e2 => ?_⟩
          have : y = b := by simpa using hy
          rw [e2, this] at hx
          obtain ⟨z, hz, _⟩ := look_key hx nd
          rw [e] at hz
          cases hz
theorem tk_some (g : Nat → Nat) : ∀ {l acc : List (Nat × Nat)}, (∀ e ∈ l, e.1 ≠ 0 ∧ g e.1 = e.2) → (∀ e ∈ acc, g e.1 = e.2) → ∃ t, tiesK l acc = some t
  | [], acc, _, _ => ⟨acc, rfl⟩
  | (b, p) :: r, acc, h, k => by
    obtain ⟨h1, h2⟩ := h (b, p) List.mem_cons_self
    unfold tiesK
    rw [if_neg h1]
    cases e : acc.lookup b with
    | some q =>
      have := k _ (look_some e)
      have e2 : q = p := by
        have h2 : g b = p := h2
        have this : g b = q := this
        rw [← h2, ← this]
      simp only
      rw [if_pos e2]
      exact tk_some g (fun x hx => h x (List.mem_cons_of_mem _ hx)) k
    | none =>
      refine tk_some g (fun x hx => h x (List.mem_cons_of_mem _ hx)) fun x hx => ?_
      rcases List.mem_append.mp hx with hx | hx
      · exact k x hx
      · rw [List.mem_singleton.mp hx]
        exact h2
theorem told_ties {Q : Pic} {e : Nat × Nat} : e ∈ toldTies Q ↔ ∃ q ∈ Q.told, e ∈ q.2.2 ∨ e ∈ (q.1 :: q.2.1).zip q.2.1 := by
  unfold toldTies
  rw [List.mem_flatMap]
  constructor
  · rintro ⟨q, hq, h⟩
    exact ⟨q, hq, List.mem_append.mp h⟩
  · rintro ⟨q, hq, h⟩
    exact ⟨q, hq, List.mem_append.mpr h⟩
theorem told_le {Q : Pic} (K : Pk Q) {e : Nat × Nat} (h : e ∈ toldTies Q) : e.1 ≤ Q.blocks ∧ e.2 ≤ Q.blocks := by
  obtain ⟨q, hq, h⟩ := told_ties.mp h
  rcases h with h | h
  · obtain ⟨_, b, c⟩ := K.tie q hq e h
    exact ⟨b, c⟩
  · obtain ⟨a, c⟩ := List.of_mem_zip (a := e.1) (b := e.2) h
    refine ⟨?_, K.row q hq _ c⟩
    rcases List.mem_cons.mp a with a | a
    · rw [a]; exact K.key q hq
    · exact K.row q hq _ a
theorem tw_of {Q : Pic} (K : Pk Q) {ties : List (Nat × Nat)} {ways : List (List Nat)} (h1 : tiesKnown Q = some ties) (h2 : waysOf Q ties = some ways) : Tw Q.blocks ties ways := by
  obtain ⟨t1, t2, t3, t4⟩ := tk h1
  have src : ∀ b y, ties.lookup b = some y → (b, y) ∈ toldTies Q := fun b y e => by
    rcases t3 _ (look_some e) with h | h
    · exact absurd h List.not_mem_nil
    · exact h
  refine ⟨?_, fun b y e => ?_, h2⟩
  · cases e : ties.lookup 0 with
    | none => rfl
    | some y => exact absurd rfl (t2 _ (src 0 y e)).1
  · have h := src b y e
    obtain ⟨a, c⟩ := told_le K h
    have : b ≠ 0 := (t2 _ h).1
    exact ⟨by omega, a, c⟩
/-! ### what a tree tells -/
section
variable {h : List Nat}
theorem row_tie : ∀ (f p m : Nat) (e : Nat × Nat), e ∈ (p :: (parentsF h f p).take m).zip ((parentsF h f p).take m) → e.1 ≠ 0 ∧ hangAt h e.1 = e.2
  | 0, p, m, e, he => by simp [parentsF] at he
  | f + 1, p, 0, e, he => by simp at he
  | f + 1, p, m + 1, e, he => by
    unfold parentsF at he
    by_cases z : p = 0
    · rw [if_pos z] at he
      simp at he
    · rw [if_neg z, List.take_succ_cons, List.zip_cons_cons] at he
      rcases List.mem_cons.mp he with rfl | he
      · exact ⟨z, rfl⟩
      · exact row_tie f _ m e he
theorem hang_mem {p b : Nat} : b ∈ hanging h p ↔ (1 ≤ b ∧ b ≤ h.length) ∧ hangAt h b = p := by
  unfold hanging
  rw [List.mem_filter, mem_blk, beq_iff_eq]
theorem step_mem {l : List Nat} {e : Nat × Nat} : e ∈ layerStep h l ↔ e.2 ∈ l ∧ (1 ≤ e.1 ∧ e.1 ≤ h.length) ∧ hangAt h e.1 = e.2 := by
  unfold layerStep
  rw [List.mem_flatMap]
  constructor
  · rintro ⟨x, hx, he⟩
    obtain ⟨b, hb, rfl⟩ := List.mem_map.mp he
    exact ⟨hx, hang_mem.mp hb⟩
  · rintro ⟨h1, h2⟩
    exact ⟨e.2, h1, List.mem_map.mpr ⟨e.1, hang_mem.mpr h2, rfl⟩⟩
theorem tie_in : ∀ {k : Nat} {l : List Nat} {e : Nat × Nat}, e ∈ tiesL h k l → (1 ≤ e.1 ∧ e.1 ≤ h.length) ∧ hangAt h e.1 = e.2
  | 0, l, e, he => by simp [tiesL] at he
  | k + 1, l, e, he => by
    unfold tiesL at he
    rcases List.mem_append.mp he with he | he
    · exact (step_mem.mp he).2
    · exact tie_in he
theorem tie_more : ∀ {k : Nat} {l : List Nat} {e : Nat × Nat}, e ∈ tiesL h k l → e ∈ tiesL h (k + 1) l
  | 0, l, e, he => by simp [tiesL] at he
  | k + 1, l, e, he => by
    unfold tiesL at he ⊢
    rcases List.mem_append.mp he with he | he
    · exact List.mem_append_left _ he
    · exact List.mem_append_right _ (tie_more he)
theorem tie_le {k m : Nat} {l : List Nat} {e : Nat × Nat} (he : e ∈ tiesL h k l) (hm : k ≤ m) : e ∈ tiesL h m l := by
  induction m with
  | zero =>
    have : k = 0 := by omega
    rw [← this]; exact he
  | succ m ih =>
    by_cases q : k = m + 1
    · rw [← q]; exact he
    · exact tie_more (ih (by omega))
theorem tie_down {t x y : Nat} (ht : 1 ≤ t ∧ t ≤ h.length) (e : hangAt h t = x) : ∀ {k : Nat} {l : List Nat}, (x, y) ∈ tiesL h k l → (t, x) ∈ tiesL h (k + 1) l
  | 0, l, he => by simp [tiesL] at he
  | k + 1, l, he => by
    unfold tiesL at he
    rcases List.mem_append.mp he with he | he
    · show (t, x) ∈ layerStep h l ++ tiesL h (k + 1) _
      refine List.mem_append_right _ ?_
      show (t, x) ∈ layerStep h _ ++ _
      refine List.mem_append_left _ (step_mem.mpr ⟨List.mem_map.mpr ⟨(x, y), he, rfl⟩, ht, e⟩)
    · show (t, x) ∈ layerStep h l ++ tiesL h (k + 1) _
      exact List.mem_append_right _ (tie_down ht e he)
theorem fit_iff {Q : Pic} : doesFit Q h = true ↔ h.length = Q.blocks ∧ ∀ q ∈ Q.told, rawTel h Q.view q.1 = q.2 := by
  unfold doesFit
  rw [Bool.and_eq_true, decide_eq_true_iff, List.all_eq_true]
  constructor
  · rintro ⟨h1, h2⟩
    exact ⟨h1, fun q hq => by have := h2 q hq; simpa using this⟩
  · rintro ⟨h1, h2⟩
    exact ⟨h1, fun q hq => by rw [h2 q hq]; exact beq_self_eq_true _⟩
theorem told_true {Q : Pic} (hf : doesFit Q h = true) {e : Nat × Nat} (he : e ∈ toldTies Q) : e.1 ≠ 0 ∧ hangAt h e.1 = e.2 := by
  obtain ⟨h1, h2⟩ := fit_iff.mp hf
  obtain ⟨q, hq, he⟩ := told_ties.mp he
  have e2 := h2 q hq
  rw [← e2] at he
  rcases he with he | he
  · have := tie_in ((sortP_perm _).mem_iff.mp he)
    exact ⟨by omega, this.2⟩
  · exact row_tie _ _ _ e he
end
/-- a tree that fits has the known ties, and its tops hang at open places -/
theorem fit_in {Q : Pic} (K : Pk Q) {h : List Nat} (I : IsT Q.blocks h) (hf : doesFit Q h = true) : ∃ ties ways, tiesKnown Q = some ties ∧ waysOf Q ties = some ways ∧ Con ties h ∧ Opn Q ties ways h := by
  obtain ⟨ties, ht⟩ := tk_some (hangAt h) (l := toldTies Q) (acc := []) (fun e he => told_true hf he) fun e he => absurd he List.not_mem_nil
  obtain ⟨t1, t2, t3, t4⟩ := tk ht
  have src : ∀ b y, ties.lookup b = some y → (b, y) ∈ toldTies Q := fun b y e => by
    rcases t3 _ (look_some e) with h | h
    · exact absurd h List.not_mem_nil
    · exact h
  have C : Con ties h := fun b y e => (told_true hf (src b y e)).2
  have wy : ∀ f x, iter (upOf h) f x = 0 → wayU ties (f + 1) x ≠ none := by
    intro f
    induction f with
    | zero =>
      intro x hx
      have hx : x = 0 := hx
      subst hx
      cases e : ties.lookup 0 with
      | none => rw [way_none e]; simp
      | some y => exact absurd rfl (t2 _ (src 0 y e)).1
    | succ f ih =>
      intro x hx
      unfold wayU
      cases e : ties.lookup x with
      | none => simp
      | some y =>
        have hne : x ≠ 0 := (t2 _ (src x y e)).1
        have hx : iter (upOf h) f (upOf h x) = 0 := hx
        rw [upOf_p (by omega), C x y e] at hx
        have := ih y hx
        simpa using this
  obtain ⟨ways, hw⟩ := allSome_of (l := (List.range (Q.blocks + 1)).map fun p => wayU ties (Q.blocks + 1) p) fun o ho => by
    obtain ⟨x, hx, rfl⟩ := List.mem_map.mp ho
    have := List.mem_range.mp hx
    exact wy _ x (I.home x (by omega))
  have T : Tw Q.blocks ties ways := tw_of K ht hw
  refine ⟨ties, ways, ht, hw, C, fun t h1 h2 h3 z hz hk => ?_⟩
  have up : ∀ (j x t : Nat), 1 ≤ t ∧ t ≤ h.length → hangAt h t = x → x ≤ Q.blocks → (ways.getD x [])[j]? = some z → (t, x) ∈ tiesL h (j + 1) [z] := by
    intro j
    induction j with
    | zero =>
      intro x t ht hx hxn hj
      have hz : z = x := by
        cases e : ties.lookup x with
        | none => rw [T.none hxn e] at hj; simpa using hj.symm
        | some y => rw [T.some e] at hj; simpa using hj.symm
      subst hz
      exact List.mem_append_left _ (step_mem.mpr ⟨List.mem_singleton.mpr rfl, ht, hx⟩)
    | succ j ih =>
      intro x t ht hx hxn hj
      cases e : ties.lookup x with
      | none => rw [T.none hxn e] at hj; simp at hj
      | some y =>
        rw [T.some e] at hj
        obtain ⟨r1, r2, r3⟩ := T.r x y e
        exact tie_down ht hx (ih y x ⟨r1, by rw [I.len]; exact r2⟩ (C x y e) r3 (by simpa using hj))
  obtain ⟨j, hj, e⟩ := List.getElem_of_mem hz
  rw [List.length_take] at hj
  have hj2 : (ways.getD (hangAt h t) [])[j]? = some z := by
    rw [List.getElem_take] at e
    rw [← e, List.getElem?_eq_getElem (by omega)]
  have := tie_le (up j _ t ⟨h1, by rw [I.len]; exact h2⟩ rfl (I.le t h1 h2) hj2) (by omega : j + 1 ≤ Q.view.2)
  obtain ⟨q, hq, rfl⟩ := List.mem_map.mp hk
  have tell := (fit_iff.mp hf).2 q hq
  have hm : (t, hangAt h t) ∈ toldTies Q := told_ties.mpr ⟨q, hq, .inl (by
    rw [← tell]
    exact (sortP_perm _).symm.mem_iff.mp this)⟩
  have := (t2 _ hm).2
  rw [h3] at this
  cases this
/-! ### all with these ties fit -/
section
variable {h h0 : List Nat}
theorem row_same : ∀ (f p m : Nat), (∀ e ∈ (p :: (parentsF h0 f p).take m).zip ((parentsF h0 f p).take m), hangAt h e.1 = e.2) → (parentsF h f p).take m = (parentsF h0 f p).take m
  | 0, p, m, _ => rfl
  | f + 1, p, 0, _ => by simp
  | f + 1, p, m + 1, he => by
    unfold parentsF at he ⊢
    by_cases z : p = 0
    · rw [if_pos z, if_pos z]
    · rw [if_neg z] at he ⊢
      rw [if_neg z]
      rw [List.take_succ_cons, List.zip_cons_cons] at he
      rw [List.take_succ_cons, List.take_succ_cons]
      have e1 : hangAt h p = hangAt h0 p := he (p, hangAt h0 p) List.mem_cons_self
      rw [e1, row_same f _ m fun e q => he e (List.mem_cons_of_mem _ q)]
theorem fit_same {Q : Pic} (K : Pk Q) {ties : List (Nat × Nat)} {ways : List (List Nat)} (T : Tw Q.blocks ties ways) (ht : tiesKnown Q = some ties) (I0 : IsT Q.blocks h0) (C0 : Con ties h0) (hf : doesFit Q h0 = true) (I : IsT Q.blocks h) (C : Con ties h) (O : Opn Q ties ways h) : doesFit Q h = true := by
  obtain ⟨t1, t2, t3, t4⟩ := tk ht
  obtain ⟨f1, f2⟩ := fit_iff.mp hf
  refine fit_iff.mpr ⟨I.len, fun q hq => ?_⟩
  have tell := f2 q hq
  rw [← tell]
  have tz : ∀ e, e ∈ toldTies Q → ties.lookup e.1 = some e.2 := fun e he => (t2 e he).2
  unfold rawTel
  rw [I.len, I0.len]
  have hrow : (parentsF h Q.blocks q.1).take Q.view.1 = (parentsF h0 Q.blocks q.1).take Q.view.1 := row_same _ _ _ fun e he => C _ _ (tz e (told_ties.mpr ⟨q, hq, .inr (by
    have : q.2.1 = (parentsF h0 Q.blocks q.1).take Q.view.1 := by rw [← tell]; unfold rawTel; rw [I0.len]
    rw [this]
    exact he)⟩))
  have hz : q.1 ∈ Q.told.map (·.1) := List.mem_map.mpr ⟨q, hq, rfl⟩
  have down : ∀ (k j : Nat) (l : List Nat), j + k ≤ Q.view.2 → (∀ x ∈ l, ∃ i, i ≤ j ∧ (ways.getD x [])[i]? = some q.1) → (∀ e ∈ tiesL h0 k l, ties.lookup e.1 = some e.2) → tiesL h k l = tiesL h0 k l := by
    intro k
    induction k with
    | zero => intro j l _ _ _; rfl
    | succ k ih =>
      intro j l hjk hl he
      have hs : layerStep h l = layerStep h0 l := by
        unfold layerStep
        rw [List.flatMap_def, List.flatMap_def]
        congr 1
        apply List.map_congr_left
        intro x hx
        congr 1
        unfold hanging
        rw [I.len, I0.len]
        apply List.filter_congr
        intro b hb
        obtain ⟨b1, b2⟩ := mem_blk.mp hb
        rw [Bool.eq_iff_iff, beq_iff_eq, beq_iff_eq]
        constructor
        · intro hbx
          cases e : ties.lookup b with
          | some y =>
            have := C b y e
            rw [C0 b y e, ← this]
            exact hbx
          | none =>
            exfalso
            obtain ⟨i, i1, i2⟩ := hl x hx
            have op := O b b1 b2 e
            rw [hbx] at op
            refine op q.1 ?_ hz
            rw [List.mem_take_iff_getElem]
            obtain ⟨i3, i4⟩ := List.getElem?_eq_some_iff.mp i2
            exact ⟨i, by omega, i4⟩
        · intro hbx
          have hm : (b, x) ∈ tiesL h0 (k + 1) l := List.mem_append_left _ (step_mem.mpr ⟨hx, ⟨b1, by rw [I0.len]; exact b2⟩, hbx⟩)
          exact C b x (he _ hm)
      unfold tiesL
      rw [hs]
      congr 1
      refine ih (j + 1) _ (by omega) (fun x hx => ?_) fun e h => he e (List.mem_append_right _ h)
      obtain ⟨e, h1, rfl⟩ := List.mem_map.mp hx
      obtain ⟨i, i1, i2⟩ := hl e.2 (step_mem.mp h1).1
      refine ⟨i + 1, by omega, ?_⟩
      rw [T.some (he e (List.mem_append_left _ h1))]
      simpa using i2
  have hq1 : q.1 ≤ Q.blocks := K.key q hq
  rw [hrow, down Q.view.2 0 [q.1] (by omega) (fun x hx => by
    have hx : x = q.1 := by simpa using hx
    subst hx
    refine ⟨0, Nat.le_refl _, ?_⟩
    cases e : ties.lookup q.1 with
    | none => rw [T.none hq1 e]; rfl
    | some y => rw [T.some e]; rfl) fun e he => tz e (told_ties.mpr ⟨q, hq, .inl (by
      rw [← tell]
      exact (sortP_perm _).symm.mem_iff.mp he)⟩)]
end
theorem dg_first : ∀ {ls : List (List Nat)}, (∀ l ∈ ls, l ≠ []) → Dg ls (ls.map fun l => l.getD 0 0)
  | [], _ => rfl
  | l :: r, h => ⟨_, _, rfl, getD_mem (List.length_pos_iff.mpr (h l List.mem_cons_self)), dg_first fun x hx => h x (List.mem_cons_of_mem _ hx)⟩
/-- the trees of what is laid are those that fit -/
theorem laid_fit {Q : Pic} (K : Pk Q) {L : Ld} (hL : laidOrNone Q = some L) : ((List.range L.many).map L.treeAt).Nodup ∧ (∀ h, h ∈ (List.range L.many).map L.treeAt ↔ IsT Q.blocks h ∧ doesFit Q h = true) ∧ 0 < L.many := by
  unfold laidOrNone at hL
  cases ht : tiesKnown Q with
  | none => rw [ht] at hL; cases hL
  | some ties =>
    rw [ht] at hL
    simp only at hL
    cases hw : waysOf Q ties with
    | none => rw [hw] at hL; cases hL
    | some ways =>
      rw [hw] at hL
      simp only at hL
      split at hL
      · cases hL
      · rename_i hg
        split at hL
        · rename_i hfit
          have hL := Option.some.inj hL
          subst hL
          have T := tw_of K ht hw
          obtain ⟨n1, n2⟩ := trees_laid T hg
          obtain ⟨a1, a2, a3⟩ := tree_of T (dg_first fun l hl => (digits_ok T hg l hl).1)
          refine ⟨n1, fun h => ?_, ?_⟩
          · rw [n2]
            constructor
            · rintro ⟨h1, h2, h3⟩
              exact ⟨h1, fit_same K T ht a1 a2 hfit h1 h2 h3⟩
            · rintro ⟨h1, h2⟩
              obtain ⟨ties2, ways2, e1, e2, e3, e4⟩ := fit_in K h1 h2
              rw [ht] at e1
              cases e1
              rw [hw] at e2
              cases e2
              exact ⟨h1, e3, e4⟩
          · have := (n2 _).mpr ⟨a1, a2, a3⟩
            obtain ⟨m, hm, _⟩ := List.mem_map.mp this
            have := List.mem_range.mp hm
            omega
        · cases hL
theorem laid_of_fit {Q : Pic} (K : Pk Q) {h : List Nat} (I : IsT Q.blocks h) (hf : doesFit Q h = true) : ∃ L, laidOrNone Q = some L := by
  obtain ⟨ties, ways, ht, hw, C, O⟩ := fit_in K I hf
  have T := tw_of K ht hw
  have hg : Gd (mkLaid Q ties ways) := fun ⟨g1, g2⟩ => by
    obtain ⟨ns, D, _⟩ := code_of T I C O
    obtain ⟨d1, d2, d3⟩ := (dg_iff T).mp D
    have hne : ns ≠ [] := fun e => by
      rw [e] at d1
      rw [tops_eq T, List.length_cons, ← d1] at g1
      simp at g1
    have hm : ns.getLast hne ∈ (mkLaid Q ties ways).lots.getD 0 [] := by
      obtain ⟨a, b⟩ := d2 _ (List.getLast_mem hne)
      exact (lot_mem T).mpr ⟨a, b, d3 _ (List.getLast?_eq_some_getLast hne)⟩
    rw [List.length_eq_zero_iff.mp g2] at hm
    exact List.not_mem_nil hm
  obtain ⟨a1, a2, a3⟩ := tree_of T (dg_first fun l hl => (digits_ok T hg l hl).1)
  refine ⟨mkLaid Q ties ways, ?_⟩
  unfold laidOrNone
  rw [ht]
  simp only
  rw [hw]
  simp only
  rw [if_neg hg, if_pos (fit_same K T ht I C hf a1 a2 a3)]
end Mt
end FV
set_option linter.all false
set_option maxRecDepth 100000
/-! The mathematics, part 5: the nearest trees. -/
namespace FV
namespace Mt
structure Pa (Q : Pic) : Prop extends Pk Q where
  asc : (Q.told.map (·.1)).Pairwise (· < ·)
  head : 0 ∈ Q.told.map (·.1)
section
variable {Q : Pic} {h : List Nat}
theorem pk_wo (K : Pk Q) (l : List Nat) : Pk (without Q l) := by
  have sub : ∀ q ∈ (without Q l).told, q ∈ Q.told := fun q hq => (List.mem_filter.mp hq).1
  exact ⟨K.nd.sublist (List.Sublist.map _ List.filter_sublist), fun q hq => K.key q (sub q hq), fun q hq => K.row0 q (sub q hq), fun q hq => K.row q (sub q hq), fun q hq => K.tie q (sub q hq)⟩
theorem tells_eq (K : Pk Q) {q : Nat × Tel} (hq : q ∈ Q.told) : tellsB Q h q.1 = true ↔ rawTel h Q.view q.1 = q.2 := by
  unfold tellsB
  rw [look_mem2 K.nd hq]
  show (q.2 == rawTel h Q.view q.1) = true ↔ _
  rw [beq_iff_eq]
  exact ⟨fun e => e.symm, fun e => e.symm⟩
theorem wrong_mem {b : Nat} : b ∈ wrongOf Q h ↔ b ∈ toldBlocks Q ∧ ¬ tellsB Q h b = true := by
  unfold wrongOf
  rw [List.mem_filter]
  simp
theorem tb_mem {b : Nat} : b ∈ toldBlocks Q ↔ b ∈ Q.told.map (·.1) ∧ b ≠ 0 := by
  unfold toldBlocks
  rw [List.mem_filter]
  simp
theorem fit_wo (K : Pa Q) {l : List Nat} (h0 : 0 ∉ l) : doesFit (without Q l) h = true ↔ h.length = Q.blocks ∧ tellsB Q h 0 = true ∧ ∀ b ∈ wrongOf Q h, b ∈ l := by
  rw [fit_iff]
  have mem : ∀ q, q ∈ (without Q l).told ↔ q ∈ Q.told ∧ q.1 ∉ l := fun q => by
    show q ∈ Q.told.filter _ ↔ _
    rw [List.mem_filter]
    simp
  constructor
  · rintro ⟨h1, h2⟩
    refine ⟨h1, ?_, fun b hb => ?_⟩
    · obtain ⟨q, hq, e⟩ := List.mem_map.mp K.head
      have := (tells_eq K.toPk hq (h := h)).mpr (h2 q ((mem q).mpr ⟨hq, by rw [e]; exact h0⟩))
      rw [e] at this
      exact this
    · obtain ⟨b1, b2⟩ := wrong_mem.mp hb
      obtain ⟨q, hq, rfl⟩ := List.mem_map.mp (tb_mem.mp b1).1
      apply Classical.byContradiction
      intro hn
      exact b2 ((tells_eq K.toPk hq).mpr (h2 q ((mem q).mpr ⟨hq, hn⟩)))
  · rintro ⟨h1, h2, h3⟩
    refine ⟨h1, fun q hq => ?_⟩
    obtain ⟨q1, q2⟩ := (mem q).mp hq
    refine (tells_eq K.toPk q1).mp ?_
    by_cases z : q.1 = 0
    · rw [z]; exact h2
    · apply Classical.byContradiction
      intro hn
      exact q2 (h3 _ (wrong_mem.mpr ⟨tb_mem.mpr ⟨List.mem_map.mpr ⟨q, q1, rfl⟩, z⟩, hn⟩))
/-! ### lots -/
theorem lots_mem2 {th : List Nat} : ∀ {k : Nat} {l : List Nat}, l ∈ lotsOf th k ↔ l.length = k ∧ l.Pairwise (· < ·) ∧ ∀ x ∈ l, x ∈ th
  | 0, l => by
    show l ∈ [[]] ↔ _
    rw [List.mem_singleton]
    constructor
    · intro e
      rw [e]
      exact ⟨rfl, .nil, fun x hx => absurd hx List.not_mem_nil⟩
    · rintro ⟨e, _⟩
      exact List.length_eq_zero_iff.mp e
  | k + 1, l => by
    show l ∈ (lotsOf th k).flatMap _ ↔ _
    rw [List.mem_flatMap]
    constructor
    · rintro ⟨a, ha, hl⟩
      obtain ⟨t, ht, rfl⟩ := List.mem_map.mp hl
      obtain ⟨t1, t2⟩ := List.mem_filter.mp ht
      obtain ⟨a1, a2, a3⟩ := lots_mem2.mp ha
      refine ⟨by rw [List.length_append, a1]; rfl, ?_, fun x hx => ?_⟩
      · rw [List.pairwise_append]
        refine ⟨a2, by simp, fun x hx y hy => ?_⟩
        have hy : y = t := by simpa using hy
        rw [hy]
        cases he : a.isEmpty with
        | true =>
          rw [List.isEmpty_iff.mp he] at hx
          exact absurd hx List.not_mem_nil
        | false =>
          rw [he, Bool.false_or, decide_eq_true_iff] at t2
          have hne : a ≠ [] := fun e => by rw [e] at he; cases he
          have e := (List.dropLast_concat_getLast hne).symm
          have e2 : a.getLastD 0 = a.getLast hne := by
            cases a with
            | nil => exact absurd rfl hne
            | cons b r => rfl
          rw [e] at hx a2
          rcases List.mem_append.mp hx with hx | hx
          · have := (List.pairwise_append.mp a2).2.2 x hx (a.getLast hne) (by simp)
            omega
          · have : x = a.getLast hne := by simpa using hx
            omega
      · rcases List.mem_append.mp hx with hx | hx
        · exact a3 x hx
        · have : x = t := by simpa using hx
          rw [this]; exact t1
    · rintro ⟨l1, l2, l3⟩
      have hne : l ≠ [] := fun e => by rw [e] at l1; simp at l1
      have e := (List.dropLast_concat_getLast hne).symm
      refine ⟨l.dropLast, lots_mem2.mpr ⟨by rw [List.length_dropLast, l1]; rfl, ?_, fun x hx => l3 x (List.dropLast_subset _ hx)⟩, List.mem_map.mpr ⟨l.getLast hne, List.mem_filter.mpr ⟨l3 _ (List.getLast_mem hne), ?_⟩, e.symm⟩⟩
      · rw [e] at l2
        exact (List.pairwise_append.mp l2).1
      · rw [e] at l2
        cases he : l.dropLast with
        | nil => rfl
        | cons a r =>
          have hm : (a :: r).getLastD 0 ∈ l.dropLast := by
            rw [he]
            show (a :: r).getLast (by simp) ∈ _
            exact List.getLast_mem _
          have := (List.pairwise_append.mp l2).2.2 _ hm (l.getLast hne) (by simp)
          simp only [List.isEmpty_cons, Bool.false_or, decide_eq_true_iff]
          exact this
theorem lots_nd {th : List Nat} (nd : th.Nodup) : ∀ k, (lotsOf th k).Nodup
  | 0 => by simp [lotsOf]
  | k + 1 => by
    show ((lotsOf th k).flatMap _).Nodup
    rw [List.Nodup, List.pairwise_flatMap]
    refine ⟨fun a ha => ?_, ?_⟩
    · rw [List.pairwise_map]
      refine (List.Pairwise.filter _ nd).imp fun {x y} hxy e => hxy ?_
      have := (List.append_inj_right e rfl)
      simpa using this
    · refine (lots_nd nd k).imp_of_mem fun {a b} ha hb hab x hx y hy e => hab ?_
      obtain ⟨t, _, rfl⟩ := List.mem_map.mp hx
      obtain ⟨t2, _, rfl⟩ := List.mem_map.mp hy
      have h1 := (lots_mem2.mp ha).1
      have h2 := (lots_mem2.mp hb).1
      exact List.append_inj_left e (by rw [h1, h2])
theorem asc_nd {l : List Nat} (h : l.Pairwise (· < ·)) : l.Nodup := h.imp fun h => Nat.ne_of_lt h
/-- two ascending rows, one in the other, no longer -/
theorem asc_same {w l : List Nat} (hw : w.Pairwise (· < ·)) (hl : l.Pairwise (· < ·)) (sub : ∀ x ∈ w, x ∈ l) (len : l.length ≤ w.length) : w = l := by
  have perm : w.Perm l := by
    rw [List.perm_ext_iff_of_nodup (asc_nd hw) (asc_nd hl)]
    intro x
    refine ⟨sub x, fun hx => ?_⟩
    apply Classical.byContradiction
    intro hn
    have s2 : w ⊆ l.erase x := fun y hy => (List.mem_erase_of_ne (fun e => hn (by rw [← e]; exact hy))).mpr (sub y hy)
    have := (asc_nd hw).length_le_of_subset s2
    rw [List.length_erase_of_mem hx] at this
    have : 0 < l.length := List.length_pos_of_mem hx
    omega
  exact perm.eq_of_pairwise (fun a b _ _ h1 h2 => by omega) hw hl
theorem tb_asc (K : Pa Q) : (toldBlocks Q).Pairwise (· < ·) := List.Pairwise.filter _ K.asc
theorem wr_asc (K : Pa Q) : (wrongOf Q h).Pairwise (· < ·) := List.Pairwise.filter _ (tb_asc K)
theorem wr_lot (K : Pa Q) : wrongOf Q h ∈ lotsOf (toldBlocks Q) (wrongOf Q h).length := lots_mem2.mpr ⟨rfl, wr_asc K, fun x hx => (wrong_mem.mp hx).1⟩
theorem lot_z {k : Nat} {l : List Nat} (hl : l ∈ lotsOf (toldBlocks Q) k) : 0 ∉ l := fun h0 => (tb_mem.mp ((lots_mem2.mp hl).2.2 0 h0)).2 rfl
/-- the trees laid for one lot -/
def ofLot (Q : Pic) (l : List Nat) : List (List Nat) := match laidOrNone (without Q l) with
  | some L => (List.range L.many).map L.treeAt
  | none => []
theorem ofLot_spec (K : Pa Q) {k : Nat} {l : List Nat} (hl : l ∈ lotsOf (toldBlocks Q) k) : (ofLot Q l).Nodup ∧ ∀ h, h ∈ ofLot Q l ↔ IsT Q.blocks h ∧ tellsB Q h 0 = true ∧ ∀ b ∈ wrongOf Q h, b ∈ l := by
  unfold ofLot
  cases e : laidOrNone (without Q l) with
  | some L =>
    obtain ⟨h1, h2, _⟩ := laid_fit (pk_wo K.toPk l) e
    refine ⟨h1, fun h => ?_⟩
    refine (h2 h).trans ?_
    rw [fit_wo K (lot_z hl)]
    constructor
    · rintro ⟨a, _, b⟩; exact ⟨a, b⟩
    · rintro ⟨a, b⟩; exact ⟨a, a.len, b⟩
  | none =>
    refine ⟨.nil, fun h => ⟨fun z => absurd z List.not_mem_nil, ?_⟩⟩
    rintro ⟨a, b, c⟩
    obtain ⟨L, hL⟩ := laid_of_fit (pk_wo K.toPk l) (h := h) a ((fit_wo K (lot_z hl)).mpr ⟨a.len, b, c⟩)
    rw [e] at hL
    cases hL
theorem found_flat (Q : Pic) (ls : List (List Nat)) : foundOf ((ls.map fun l => laidOrNone (without Q l)).filterMap id) = ls.flatMap (ofLot Q) := by
  induction ls with
  | nil => rfl
  | cons l r ih =>
    rw [List.map_cons, List.flatMap_cons, ← ih]
    unfold ofLot
    cases e : laidOrNone (without Q l) with
    | some L =>
      rfl
    | none =>
      rfl
theorem found_lw (k : Nat) : foundOf (laidWithout Q k) = (lotsOf (toldBlocks Q) k).flatMap (ofLot Q) := found_flat Q _
theorem lw_any (K : Pa Q) {k : Nat} (hne : laidWithout Q k ≠ []) : ∃ h, IsT Q.blocks h ∧ tellsB Q h 0 = true ∧ (wrongOf Q h).length ≤ k := by
  obtain ⟨L, hL⟩ := List.exists_mem_of_ne_nil _ hne
  obtain ⟨o, ho, e⟩ := List.mem_filterMap.mp hL
  obtain ⟨l, hl, rfl⟩ := List.mem_map.mp ho
  have e : laidOrNone (without Q l) = some L := e
  obtain ⟨h1, h2, h3⟩ := laid_fit (pk_wo K.toPk l) e
  obtain ⟨a, b⟩ := (h2 (L.treeAt 0)).mp (List.mem_map.mpr ⟨0, List.mem_range.mpr h3, rfl⟩)
  obtain ⟨_, c, d⟩ := (fit_wo K (lot_z hl)).mp b
  refine ⟨_, a, c, ?_⟩
  have := (asc_nd (wr_asc K (h := L.treeAt 0))).length_le_of_subset fun x hx => d x hx
  rw [(lots_mem2.mp hl).1] at this
  exact this
theorem lw_has (K : Pa Q) (I : IsT Q.blocks h) (h0 : tellsB Q h 0 = true) : laidWithout Q (wrongOf Q h).length ≠ [] := fun e => by
  obtain ⟨L, hL⟩ := laid_of_fit (pk_wo K.toPk (wrongOf Q h)) (h := h) I ((fit_wo K (lot_z (wr_lot K))).mpr ⟨I.len, h0, fun b hb => hb⟩)
  have : L ∈ laidWithout Q (wrongOf Q h).length := List.mem_filterMap.mpr ⟨some L, List.mem_map.mpr ⟨wrongOf Q h, wr_lot K, hL⟩, rfl⟩
  rw [e] at this
  exact List.not_mem_nil this
theorem near_from : ∀ {f k j : Nat} {Ls : List Ld}, nearFrom Q f k = some (j, Ls) → laidWithout Q j = Ls ∧ Ls ≠ [] ∧ k ≤ j ∧ j < k + f ∧ ∀ i, k ≤ i → i < j → laidWithout Q i = []
  | 0, k, j, Ls, h => by simp [nearFrom] at h
  | f + 1, k, j, Ls, h => by
    unfold nearFrom at h
    cases e : laidWithout Q k with
    | cons L r =>
      rw [e] at h
      simp only [Option.some.injEq, Prod.mk.injEq] at h
      obtain ⟨rfl, rfl⟩ := h
      exact ⟨e, by simp, Nat.le_refl _, by omega, fun i h1 h2 => by omega⟩
    | nil =>
      rw [e] at h
      obtain ⟨h1, h2, h3, h4, h5⟩ := near_from h
      refine ⟨h1, h2, by omega, by omega, fun i i1 i2 => ?_⟩
      by_cases q : i = k
      · rw [q]; exact e
      · exact h5 i (by omega) i2
theorem near_none : ∀ {f k : Nat}, nearFrom Q f k = none → ∀ i, k ≤ i → i < k + f → laidWithout Q i = []
  | 0, k, _, i, h1, h2 => by omega
  | f + 1, k, h, i, h1, h2 => by
    unfold nearFrom at h
    cases e : laidWithout Q k with
    | cons L r => rw [e] at h; cases h
    | nil =>
      rw [e] at h
      by_cases q : i = k
      · rw [q]; exact e
      · exact near_none h i (by omega) (by omega)
theorem wr_len : (wrongOf Q h).length ≤ (toldBlocks Q).length := List.length_filter_le _ _
/-- the nearest trees -/
theorem near_spec (K : Pa Q) {k : Nat} {Ls : List Ld} (hn : nearLaid Q = some (k, Ls)) : (foundOf Ls).Nodup ∧ (∀ h, h ∈ foundOf Ls ↔ IsT Q.blocks h ∧ tellsB Q h 0 = true ∧ (wrongOf Q h).length = k) ∧ (∀ h, IsT Q.blocks h → tellsB Q h 0 = true → k ≤ (wrongOf Q h).length) ∧ ∃ h, IsT Q.blocks h ∧ tellsB Q h 0 = true ∧ (wrongOf Q h).length = k := by
  obtain ⟨e, h2, _, _, h5⟩ := near_from hn
  have low : ∀ h, IsT Q.blocks h → tellsB Q h 0 = true → k ≤ (wrongOf Q h).length := fun h I h0 => by
    apply Classical.byContradiction
    intro hlt
    exact lw_has K I h0 (h5 _ (Nat.zero_le _) (by omega))
  subst e
  rw [found_lw]
  have eq : ∀ l ∈ lotsOf (toldBlocks Q) k, ∀ h ∈ ofLot Q l, wrongOf Q h = l := fun l hl h hh => by
    obtain ⟨a, b, c⟩ := ((ofLot_spec K hl).2 h).mp hh
    obtain ⟨l1, l2, l3⟩ := lots_mem2.mp hl
    exact asc_same (wr_asc K) l2 c (by rw [l1]; exact low h a b)
  refine ⟨?_, fun h => ?_, low, ?_⟩
  · rw [List.Nodup, List.pairwise_flatMap]
    refine ⟨fun l hl => (ofLot_spec K hl).1, ?_⟩
    refine (lots_nd (asc_nd (tb_asc K)) k).imp_of_mem fun {a b} ha hb hab x hx y hy e => hab ?_
    rw [← eq a ha x hx, e, eq b hb y hy]
  · rw [List.mem_flatMap]
    constructor
    · rintro ⟨l, hl, hh⟩
      obtain ⟨a, b, c⟩ := ((ofLot_spec K hl).2 h).mp hh
      exact ⟨a, b, by rw [eq l hl h hh]; exact (lots_mem2.mp hl).1⟩
    · rintro ⟨a, b, c⟩
      have hl := wr_lot K (h := h)
      rw [c] at hl
      exact ⟨_, hl, ((ofLot_spec K hl).2 h).mpr ⟨a, b, fun x hx => hx⟩⟩
  · obtain ⟨h, a, b, c⟩ := lw_any K h2
    exact ⟨h, a, b, Nat.le_antisymm c (low h a b)⟩
theorem near_non (K : Pa Q) (hn : nearLaid Q = none) (h : List Nat) (I : IsT Q.blocks h) : tellsB Q h 0 = false := by
  cases e : tellsB Q h 0 with
  | false => rfl
  | true => exact absurd (near_none hn _ (Nat.zero_le _) (by have := wr_len (Q := Q) (h := h); omega)) (lw_has K I e)
theorem mend_from (K : Pa Q) : ∀ {f k : Nat}, mendFrom Q f k = some h → ∀ g, f ≤ g → ∃ j Ls, nearFrom Q g k = some (j, Ls) ∧ h ∈ foundOf Ls
  | 0, k, e, _, _ => by simp [mendFrom] at e
  | f + 1, k, e, g, hg => by
    obtain ⟨g', rfl⟩ : ∃ g', g = g' + 1 := ⟨g - 1, by omega⟩
    unfold mendFrom at e
    unfold nearFrom
    cases hl : laidWithout Q k with
    | cons L r =>
      rw [hl] at e
      have e := Option.some.inj e
      refine ⟨k, L :: r, rfl, ?_⟩
      have hm : L ∈ laidWithout Q k := by rw [hl]; exact List.mem_cons_self
      obtain ⟨o, ho, e2⟩ := List.mem_filterMap.mp hm
      obtain ⟨l, hll, rfl⟩ := List.mem_map.mp ho
      have e2 : laidOrNone (without Q l) = some L := e2
      obtain ⟨_, _, h3⟩ := laid_fit (pk_wo K.toPk l) e2
      unfold foundOf
      rw [List.flatMap_cons]
      exact List.mem_append_left _ (List.mem_map.mpr ⟨0, List.mem_range.mpr h3, e⟩)
    | nil =>
      rw [hl] at e
      exact mend_from K e g' (by omega)
theorem mend_near (K : Pa Q) (hm : mendedOf Q = some h) : ∃ k Ls, nearLaid Q = some (k, Ls) ∧ h ∈ foundOf Ls := by
  unfold mendedOf at hm
  refine mend_from K hm _ ?_
  split
  · omega
  · omega
end
/-! ### sorting -/
theorem sortL_same {a b : List (List Nat)} (p : a.Perm b) : sortL a = sortL b := by
  have q : (sortL a).Perm (sortL b) := (sortL_perm a).trans (p.trans (sortL_perm b).symm)
  exact q.eq_of_pairwise (fun x y _ _ h1 h2 => lexLe_anti x y h1 h2) (sortL_sorted a) (sortL_sorted b)
theorem bad_eq {Q : Pic} {h : List Nat} (K : Pa Q) (tel : ∀ p, p ≤ Q.blocks → rawTel h Q.view p = lTel h Q.view p) : lBad Q.told Q.view h = (Q.told.map (·.1)).filter fun p => !tellsB Q h p := by
  unfold lBad
  rw [List.filter_map]
  congr 1
  apply List.filter_congr
  intro q hq
  show (!(lTel h Q.view q.1 == q.2)) = !tellsB Q h q.1
  congr 1
  rw [Bool.eq_iff_iff, tells_eq K.toPk hq, tel q.1 (K.key q hq), beq_iff_eq]
theorem bad_z {Q : Pic} {h : List Nat} (K : Pa Q) (tel : ∀ p, p ≤ Q.blocks → rawTel h Q.view p = lTel h Q.view p) : (!(lBad Q.told Q.view h).contains 0) = tellsB Q h 0 := by
  rw [bad_eq K tel]
  cases e : tellsB Q h 0 with
  | true =>
    have : ((Q.told.map (·.1)).filter fun p => !tellsB Q h p).contains 0 = false := by
      rw [← Bool.not_eq_true, List.contains_iff_mem, List.mem_filter]
      rintro ⟨_, z⟩
      rw [e] at z
      cases z
    rw [this]
    rfl
  | false =>
    have : ((Q.told.map (·.1)).filter fun p => !tellsB Q h p).contains 0 = true := by
      rw [List.contains_iff_mem, List.mem_filter]
      exact ⟨K.head, by rw [e]; rfl⟩
    rw [this]
    rfl
theorem bad_wr {Q : Pic} {h : List Nat} (K : Pa Q) (tel : ∀ p, p ≤ Q.blocks → rawTel h Q.view p = lTel h Q.view p) (h0 : tellsB Q h 0 = true) : lBad Q.told Q.view h = wrongOf Q h := by
  rw [bad_eq K tel]
  unfold wrongOf toldBlocks
  rw [List.filter_filter]
  apply List.filter_congr
  intro p _
  by_cases z : p = 0
  · rw [z, h0]
    rfl
  · have : (p == 0) = false := by simpa using z
    rw [this, Bool.not_false, Bool.and_true]
/-- what is due, said by the mirror's own words -/
theorem due_spec {Q : Pic} (K : Pa Q) {TS : List (List Nat)} (nd : TS.Nodup) (ts : ∀ h, h ∈ TS ↔ IsT Q.blocks h) (tel : ∀ h ∈ TS, ∀ p, p ≤ Q.blocks → rawTel h Q.view p = lTel h Q.view p) :
    ((nearLaid Q).map (·.1), sortL (foundOf ((nearLaid Q).elim [] (·.2)))) = lDue TS Q.view Q.told := by
  have hf : ((TS.map fun h => ((lBad Q.told Q.view h), h)).filter fun q => !q.1.contains 0).map (fun q => (q.1.length, q.2)) = (TS.filter fun h => tellsB Q h 0).map fun h => ((wrongOf Q h).length, h) := by
    rw [List.filter_map, List.map_map]
    have e1 : TS.filter ((fun q : List Nat × List Nat => !q.1.contains 0) ∘ fun h => ((lBad Q.told Q.view h), h)) = TS.filter fun h => tellsB Q h 0 := by
      apply List.filter_congr
      intro h hh
      exact bad_z K (tel h hh)
    rw [e1]
    apply List.map_congr_left
    intro h hh
    obtain ⟨h1, h2⟩ := List.mem_filter.mp hh
    show ((lBad Q.told Q.view h).length, h) = _
    rw [bad_wr K (tel h h1) h2]
  unfold lDue
  simp only
  rw [hf]
  have fm : ∀ h, h ∈ (TS.filter fun h => tellsB Q h 0) ↔ IsT Q.blocks h ∧ tellsB Q h 0 = true := fun h => by
    rw [List.mem_filter, ts]
  cases hn : nearLaid Q with
  | none =>
    have : (TS.filter fun h => tellsB Q h 0) = [] := by
      rw [List.filter_eq_nil_iff]
      intro h hh
      rw [near_non K hn h ((ts h).mp hh)]
      exact Bool.false_ne_true
    rw [this]
    rfl
  | some q =>
    obtain ⟨k, Ls⟩ := q
    obtain ⟨n1, n2, n3, g, g1, g2, g3⟩ := near_spec K hn
    have hg := (fm g).mpr ⟨g1, g2⟩
    have hne : ((TS.filter fun h => tellsB Q h 0).map fun h => ((wrongOf Q h).length, h)).isEmpty = false := by
      cases e : (TS.filter fun h => tellsB Q h 0) with
      | nil => rw [e] at hg; exact absurd hg List.not_mem_nil
      | cons a r => rfl
    rw [hne, if_neg Bool.false_ne_true, List.map_map]
    have hk : minL ((TS.filter fun h => tellsB Q h 0).map ((·.1) ∘ fun h => ((wrongOf Q h).length, h))) = k := by
      apply Nat.le_antisymm
      · rw [← g3]
        exact minL_le (List.mem_map.mpr ⟨g, hg, rfl⟩)
      · have hm : minL ((TS.filter fun h => tellsB Q h 0).map ((·.1) ∘ fun h => ((wrongOf Q h).length, h))) ∈ (TS.filter fun h => tellsB Q h 0).map ((·.1) ∘ fun h => ((wrongOf Q h).length, h)) := minL_mem fun e => by
          rw [List.map_eq_nil_iff] at e
          rw [e] at hg
          exact List.not_mem_nil hg
        obtain ⟨h, hh, e⟩ := List.mem_map.mp hm
        rw [← e]
        exact n3 h ((fm h).mp hh).1 ((fm h).mp hh).2
    rw [hk, List.filter_map, List.map_map]
    show (some k, sortL (foundOf Ls)) = _
    congr 1
    apply sortL_same
    have e3 : ((TS.filter fun h => tellsB Q h 0).filter ((fun q : Nat × List Nat => q.1 == k) ∘ fun h => ((wrongOf Q h).length, h))).map ((fun q : Nat × List Nat => q.2) ∘ fun h => ((wrongOf Q h).length, h)) = (TS.filter fun h => tellsB Q h 0).filter fun h => (wrongOf Q h).length == k := List.map_id _
    rw [e3]
    rw [List.perm_ext_iff_of_nodup n1 (List.Pairwise.filter _ (List.Pairwise.filter _ nd))]
    intro h
    rw [n2, List.mem_filter, fm, beq_iff_eq, and_assoc]
end Mt
end FV
set_option Elab.async false
set_option linter.all false
set_option maxRecDepth 100000
/-! The mathematics, part 6: what the walk wants. -/
namespace FV
namespace Mt
/-! ### the law's own listing -/
theorem hang_app {r : List Nat} {p x : Nat} (h1 : 1 ≤ x) (h2 : x ≤ r.length) : hangAt (r ++ [p]) x = hangAt r x := by
  unfold hangAt
  rw [List.getD_eq_getElem?_getD, List.getD_eq_getElem?_getD, List.getElem?_append_left (by omega)]
theorem hang_end {r : List Nat} {p : Nat} : hangAt (r ++ [p]) (r.length + 1) = p := by
  unfold hangAt
  rw [List.getD_eq_getElem?_getD, List.getElem?_append_right (by omega)]
  simp
theorem rows_mem2 {n : Nat} : ∀ {b : Nat} {r : List Nat}, r ∈ rowsTo n b ↔ r.length = b ∧ ∀ x, 1 ≤ x → x ≤ b → hangAt r x ≤ n ∧ hangAt r x ≠ x
  | 0, r => by
    show r ∈ [[]] ↔ _
    rw [List.mem_singleton]
    constructor
    · intro e
      rw [e]
      exact ⟨rfl, fun x h1 h2 => by omega⟩
    · rintro ⟨e, _⟩
      exact List.length_eq_zero_iff.mp e
  | b + 1, r => by
    show r ∈ (rowsTo n b).flatMap _ ↔ _
    rw [List.mem_flatMap]
    constructor
    · rintro ⟨a, ha, hr⟩
      obtain ⟨p, hp, rfl⟩ := List.mem_map.mp hr
      obtain ⟨p1, p2⟩ := List.mem_filter.mp hp
      have p1 := List.mem_range.mp p1
      have p2 : p ≠ b + 1 := by simpa using p2
      obtain ⟨a1, a2⟩ := rows_mem2.mp ha
      refine ⟨by rw [List.length_append, a1]; rfl, fun x h1 h2 => ?_⟩
      by_cases q : x = b + 1
      · rw [q, ← a1, hang_end]
        exact ⟨by omega, by rw [a1]; exact p2⟩
      · rw [hang_app h1 (by omega)]
        exact a2 x h1 (by omega)
    · rintro ⟨h1, h2⟩
      have hne : r ≠ [] := fun e => by rw [e] at h1; simp at h1
      have e := (List.dropLast_concat_getLast hne).symm
      have hl : r.dropLast.length = b := by rw [List.length_dropLast, h1]; rfl
      generalize r.getLast hne = p at e
      generalize r.dropLast = a at e hl
      subst e
      have he := h2 (b + 1) (by omega) (Nat.le_refl _)
      rw [← hl, hang_end] at he
      refine ⟨a, rows_mem2.mpr ⟨hl, fun x x1 x2 => ?_⟩, List.mem_map.mpr ⟨p, List.mem_filter.mpr ⟨List.mem_range.mpr (by omega), ?_⟩, rfl⟩⟩
      · have := h2 x x1 (by omega)
        rw [hang_app x1 (by omega)] at this
        exact this
      · rw [hl] at he
        simpa using he.2
theorem rows_nd {n : Nat} : ∀ b, (rowsTo n b).Nodup
  | 0 => by simp [rowsTo]
  | b + 1 => by
    show ((rowsTo n b).flatMap _).Nodup
    rw [List.Nodup, List.pairwise_flatMap]
    refine ⟨fun a ha => ?_, ?_⟩
    · rw [List.pairwise_map]
      refine (List.Pairwise.filter _ List.nodup_range).imp fun {x y} hxy e => hxy ?_
      have := (List.append_inj_right e rfl)
      simpa using this
    · refine (rows_nd b).imp_of_mem fun {a c} ha hc hac x hx y hy e => hac ?_
      obtain ⟨t, _, rfl⟩ := List.mem_map.mp hx
      obtain ⟨t2, _, rfl⟩ := List.mem_map.mp hy
      have h1 := (rows_mem2.mp ha).1
      have h2 := (rows_mem2.mp hc).1
      exact List.append_inj_left e (by rw [h1, h2])
theorem trees_nd (n : Nat) : (lTrees n).Nodup := List.Pairwise.filter _ (rows_nd n)
theorem isT_ne {n : Nat} {h : List Nat} (I : IsT n h) {b : Nat} (h1 : 1 ≤ b) (h2 : b ≤ n) : hangAt h b ≠ b := fun e => by
  have : ∀ k, iter (upOf h) k b = b := by
    intro k
    induction k with
    | zero => rfl
    | succ k ih => rw [iter_succ, ih, upOf_p h1, e]
  have h3 := I.home b h2
  rw [this] at h3
  omega
theorem trees_mem {n : Nat} {h : List Nat} : h ∈ lTrees n ↔ IsT n h := by
  unfold lTrees
  rw [List.mem_filter, rows_mem2]
  unfold goesHome
  rw [List.all_eq_true]
  constructor
  · rintro ⟨⟨h1, h2⟩, h3⟩
    refine ⟨h1, fun b b1 b2 => (h2 b b1 b2).1, fun x hx => ?_⟩
    by_cases z : x = 0
    · rw [z]
      exact iter_zero (upOf_z h) _
    · have := h3 x (mem_blk.mpr ⟨by omega, by omega⟩)
      rw [h1] at this
      simpa using this
  · intro I
    refine ⟨⟨I.len, fun x h1 h2 => ⟨I.le x h1 h2, isT_ne I h1 h2⟩⟩, fun b hb => ?_⟩
    obtain ⟨b1, b2⟩ := mem_blk.mp hb
    rw [I.len] at b2 ⊢
    rw [beq_iff_eq]
    exact I.home b b2
theorem leads_iter {h : List Nat} : ∀ f x, leads h (f + 1) x = true ↔ iter (upOf h) f x = 0
  | 0, x => by
    show (if x = 0 then true else false) = true ↔ x = 0
    by_cases z : x = 0
    · simp [z]
    · simp [z]
  | f + 1, x => by
    show (if x = 0 then true else leads h (f + 1) (hangAt h x)) = true ↔ iter (upOf h) f (upOf h x) = 0
    by_cases z : x = 0
    · rw [if_pos z, z, upOf_z, iter_zero (upOf_z h)]
      simp
    · rw [if_neg z, leads_iter f, upOf_p (by omega)]
theorem isT_tr {n : Nat} {h : List Nat} (I : IsT n h) (hn : n ≤ 40) : Tr h where
  len := by rw [I.len]; exact hn
  all x hx := by
    obtain ⟨i, hi, e⟩ := List.getElem_of_mem hx
    rw [I.len] at hi
    have := I.le (i + 1) (by omega) (by omega)
    unfold hangAt at this
    rw [List.getD_eq_getElem?_getD, Nat.add_sub_cancel, List.getElem?_eq_getElem (by rw [I.len]; exact hi)] at this
    rw [I.len, ← e]
    exact this
  home b hb := by
    rw [I.len] at hb ⊢
    exact (leads_iter _ _).mpr (I.home b hb)
/-! ### tellings of small trees -/
def rowOk (n : Nat) : Bool := (lTrees n).all fun h => (List.range 4).all fun a => (List.range (n + 1)).all fun p => (parentsF h h.length p).take a == lRow h a p && decide ((lRow h a p).length ≤ if p = 0 then 0 else a) && (lRow h a p).all fun x => decide (x ≤ n)
def tieOk (n : Nat) : Bool := (lTrees n).all fun h => (List.range 4).all fun a => (List.range (n + 1)).all fun p => sortP (tiesL h a [p]) == sortP (lTies h a [p]) && ((sortP (lTies h a [p])).all fun q => decide (1 ≤ q.1 ∧ q.1 ≤ n ∧ q.2 ≤ n)) && ascP (sortP (lTies h a [p]))
theorem row_run : rowOk 1 = true ∧ rowOk 2 = true ∧ rowOk 3 = true ∧ rowOk 4 = true := by decide +kernel
theorem tie_run : tieOk 1 = true ∧ tieOk 2 = true ∧ tieOk 3 = true ∧ tieOk 4 = true := by decide +kernel
theorem small {f : Nat → Bool} (h : f 1 = true ∧ f 2 = true ∧ f 3 = true ∧ f 4 = true) {n : Nat} (h1 : 1 ≤ n) (h4 : n ≤ 4) : f n = true := by
  obtain ⟨a, b, c, d⟩ := h
  have : n = 1 ∨ n = 2 ∨ n = 3 ∨ n = 4 := by omega
  rcases this with rfl | rfl | rfl | rfl <;> assumption
theorem tells_small {n : Nat} {h : List Nat} {v : Nat × Nat} {p : Nat} (h1 : 1 ≤ n) (h4 : n ≤ 4) (hm : h ∈ lTrees n) (v1 : v.1 ≤ 3) (v2 : v.2 ≤ 3) (hp : p ≤ n) : rawTel h v p = lTel h v p ∧ formB v n p (lTel h v p) = true := by
  have r := small row_run h1 h4
  have t := small tie_run h1 h4
  have r2 := List.all_eq_true.mp (List.all_eq_true.mp (List.all_eq_true.mp r h hm) v.1 (List.mem_range.mpr (by omega))) p (List.mem_range.mpr (by omega))
  have t2 := List.all_eq_true.mp (List.all_eq_true.mp (List.all_eq_true.mp t h hm) v.2 (List.mem_range.mpr (by omega))) p (List.mem_range.mpr (by omega))
  rw [Bool.and_eq_true, Bool.and_eq_true, beq_iff_eq] at r2 t2
  obtain ⟨⟨a1, a2⟩, a3⟩ := r2
  obtain ⟨⟨b1, b2⟩, b3⟩ := t2
  constructor
  · unfold rawTel lTel
    rw [a1, b1]
  · unfold formB lTel
    simp only
    rw [a2, a3, b2, b3]
    rfl
/-! ### pictures -/
theorem pa_of {Q : Pic} (h : Pc Q) : Pa Q := by
  have f := fun q hq => (h.form q hq).2
  unfold formB at f
  simp only [Bool.and_eq_true, decide_eq_true_iff, List.all_eq_true] at f
  exact ⟨⟨h.asc.imp fun h => Nat.ne_of_lt h, fun q hq => (h.form q hq).1, fun q hq z => by
    have := (f q hq).1.1.1
    rw [if_pos z] at this
    exact List.length_eq_zero_iff.mp (Nat.le_zero.mp this), fun q hq x hx => (f q hq).1.1.2 x hx, fun q hq e he => (f q hq).1.2 e he⟩, h.asc, h.head⟩
theorem dg_in : ∀ {ls : List (List Nat)} {ns : List Nat}, InDig ls ns → Dg ls ns
  | [], _, h => h
  | _ :: _, _, ⟨n, m, e, h1, h2⟩ => ⟨n, m, e, h1, dg_in h2⟩
theorem sub_rng {l : List Nat} {n : Nat} (nd : l.Nodup) (h : ∀ x ∈ l, x ≤ n) : l.length ≤ n + 1 := by
  have := nd.length_le_of_subset (l₂ := List.range (n + 1)) fun x hx => List.mem_range.mpr (by have := h x hx; omega)
  rw [List.length_range] at this
  exact this
theorem layP {Q : Pic} (h : Pc Q) : LayP Q := fun ties ways h1 h2 => by
  have K := pa_of h
  have T := tw_of K.toPk h1 h2
  obtain ⟨t1, t2, t3, t4⟩ := tk h1
  have tnd := t4 .nil
  have hm := h.most
  have tle : ∀ b ∈ ties.map (·.1), b ≤ Q.blocks := fun b hb => by
    obtain ⟨x, e, _⟩ := look_key hb tnd
    exact (T.r b x e).2.1
  have ld : LdOk (mkLaid Q ties ways) := by
    refine ⟨hm, tnd, ?_, tops_nd, ?_, ?_, ?_, ?_, ?_, ?_, ?_, ?_, ?_, ?_⟩
    · show (ways.map fun w => w.getLastD 0).length = _
      rw [List.length_map]
      exact T.len
    · have := sub_rng (tops_nd (P := Q) (ties := ties) (ways := ways)) fun x hx => ((tops_mem T).mp hx).1
      omega
    · show (List.map _ _).length = _
      rw [List.length_map]
      rfl
    · rw [tops_eq T]
      simp
    · have := sub_rng tnd tle
      rw [List.length_map] at this
      show ties.length ≤ 16
      omega
    · intro t ht hk
      obtain ⟨x, e, _⟩ := look_key hk tnd
      have e : ties.lookup t = some x := e
      have := ((rst_mem T).mp ht).2.2
      rw [e] at this
      cases this
    · intro b b1 b2
      cases e : ties.lookup b with
      | none => exact .inr ((rst_mem T).mpr ⟨b1, b2, e⟩)
      | some y => exact .inl (List.mem_map.mpr ⟨_, look_some e, rfl⟩)
    · exact fun p hp => ((every_mem T).mp hp).1
    · have := sub_rng (every_nd (P := Q) (ties := ties) (ways := ways)) fun p hp => ((every_mem T).mp hp).1
      omega
    · intro p hp
      obtain ⟨a, _, b⟩ := (lot_mem T).mp hp
      refine ⟨a, ?_⟩
      rw [tops_eq T]
      exact b
    · rw [lot_eq T]
      have := sub_rng (List.Pairwise.filter (fun p => pcW ways p == 0) (every_nd (P := Q) (ties := ties) (ways := ways))) fun p hp => ((every_mem T).mp (List.mem_filter.mp hp).1).1
      exact Nat.le_trans this (by omega)
  refine ⟨ld, fun hg => ⟨ld, fun l hl => (digits_ok T hg l hl).1, fun ns hns => ?_, h.one⟩⟩
  have D := dg_in hns
  obtain ⟨d1, d2, d3⟩ := (dg_iff T).mp D
  obtain ⟨I, _, _⟩ := tree_of T D
  refine ⟨⟨?_, fun p hp => (d2 p hp).1, fun p hp => ?_⟩, isT_tr I (by omega), fun b b1 b2 => ?_⟩
  · rw [tops_eq T, List.length_cons, d1]
  · rw [tops_eq T]
    exact d3 p hp
  · rw [hb_len] at b2
    exact isT_ne I b1 b2
theorem lawM : LawM where
  tf n h v p hm h1 h4 v1 v2 hp := (tells_small h1 h4 hm v1 v2 hp).2
  near Q hQ hb v1 v2 := by
    have K := pa_of hQ
    have ds := due_spec K (TS := lTrees Q.blocks) (trees_nd _) (fun h => trees_mem) fun h hh p hp => (tells_small hQ.one hb hh v1 v2 hp).1
    refine ⟨⟨⟨hQ, ?_⟩, by omega, fun q hq => ?_⟩, ds⟩
    · have := (asc_nd (tb_asc K)).length_le_of_subset (l₂ := blocksOf Q.blocks) fun b hb => by
        obtain ⟨b1, b2⟩ := tb_mem.mp hb
        obtain ⟨q, hq, rfl⟩ := List.mem_map.mp b1
        exact mem_blk.mpr ⟨by omega, K.key q hq⟩
      rw [blk_len] at this
      omega
    · obtain ⟨k, Ls⟩ := q
      obtain ⟨n1, n2, _⟩ := near_spec K hq
      rw [← found_len]
      have := n1.length_le_of_subset (l₂ := lTrees Q.blocks) fun h hh => trees_mem.mpr ((n2 h).mp hh).1
      have := trees_small hb
      show (foundOf Ls).length ≤ 1000
      omega
  mend Q h hQ hb v1 v2 hm := by
    have K := pa_of hQ
    have ds := due_spec K (TS := lTrees Q.blocks) (trees_nd _) (fun h => trees_mem) fun h hh p hp => (tells_small hQ.one hb hh v1 v2 hp).1
    obtain ⟨k, Ls, e1, e2⟩ := mend_near K hm
    rw [← ds, e1]
    exact (sortL_perm _).symm.mem_iff.mp e2
  tree n h h1 h4 hm := by
    have I := trees_mem.mp hm
    exact ⟨isT_tr I (by omega), fun b b1 b2 => isT_ne I b1 (by rw [I.len] at b2; exact b2)⟩
  tel n h v p h1 h4 hm v1 v2 hp := (tells_small h1 h4 hm v1 v2 hp).1
end Mt
end FV
set_option Elab.async false
set_option linter.all false
set_option maxRecDepth 100000
set_option maxHeartbeats 4000000
/-! All promises, joined. -/
namespace FV
open PySem PySem.Spec PyProof.Rows L2 LamX
section
variable {P : Program} {W : World} {K : PySem.W.Frag} {mg : Str → Option Value} {base h : Heap} {cl : Nat → Addr}
theorem mk_cal {x q : Str} {st : Stmt} {ps : List Str} {f : Addr} {fd : FuncData} {CX : CXT} {k : Nat} {sp : Sp} (F : FnA K x q st f fd) (m : mg x = some (.ref f)) (b : L2.Binds K fd ps []) (ok : FnOk P W K mg base CX k f fd ps sp) : Cal P W K mg base CX k x ps sp := ⟨f, fd, ok, m, F.kp, b⟩
theorem fn_joinI {ι : Type} {f : Addr} {fd : FuncData} {CX : CXT} {k c : Nat} {ps fs : List Str} {ds : ι → List D} {pre : ι → Prop} {ys : ι → List D} (h : ∀ i, FnOk P W K mg base CX k f fd ps (spI K cl c (ds i) (pre i) fs (ys i))) : FnOk P W K mg base CX k f fd ps (spIJ K cl c ds pre fs ys) :=
  ⟨fun vs H Q E ⟨i, q⟩ => (h i).len vs H Q E q, fun A outer s H args us vs Q E hr he hb hv ⟨i, q⟩ => (h i).run A outer s H args us vs Q E hr he hb hv q⟩
/-- the classes by number -/
def clK (K : PySem.W.Frag) : Nat → Addr
  | 0 => He.ga K "Tree"
  | 1 => He.ga K "Picture"
  | _ => He.ga K "Laid"
theorem bl_of (X : K.In h) (G : h.Ns mainGlobals mg) (c : He.SaysD hfa hfn K) : Bl mg where
  len := He.free_ok X G (c.fact 49 (f := .free "len") rfl)
  range := He.free_ok X G (c.fact 50 (f := .free "range") rfl)
  sorted := He.free_ok X G (c.fact 51 (f := .free "sorted") rfl)
  min := He.free_ok X G (c.fact 52 (f := .free "min") rfl)
  sum := He.free_ok X G (c.fact 53 (f := .free "sum") rfl)
  list := He.free_ok X G (c.fact 54 (f := .free "list") rfl)
  tuple := He.free_ok X G (c.fact 55 (f := .free "tuple") rfl)
  dict := He.free_ok X G (c.fact 56 (f := .free "dict") rfl)
  set := He.free_ok X G (c.fact 57 (f := .free "set") rfl)
  int := He.free_ok X G (c.fact 58 (f := .free "int") rfl)
  bool := He.free_ok X G (c.fact 59 (f := .free "bool") rfl)
  enumerate := He.free_ok X G (c.fact 60 (f := .free "enumerate") rfl)
  zip := He.free_ok X G (c.fact 61 (f := .free "zip") rfl)
  all := He.free_ok X G (c.fact 62 (f := .free "all") rfl)
  any := He.free_ok X G (c.fact 63 (f := .free "any") rfl)
  abs := He.free_ok X G (c.fact 64 (f := .free "abs") rfl)
  isinstance := He.free_ok X G (c.fact 65 (f := .free "isinstance") rfl)
theorem gn_of (X : K.In h) (G : h.Ns mainGlobals mg) (c : He.SaysD hfa hfn K) : Gn mg where
  head := He.int_ok X G (c.fact 68 (f := .int "HEAD" 0) rfl)
  steps := He.int_ok X G (c.fact 67 (f := .int "MOST_STEPS" 4) rfl)
  mbc := He.int_ok X G (c.fact 66 (f := .int "MOST_BLOCKS_checks" 40) rfl)
  mbw := He.int_ok X G (c.fact 69 (f := .int "MOST_BLOCKS_wrongs" 10) rfl)
  mtr := He.int_ok X G (c.fact 70 (f := .int "MOST_TREES" 1000) rfl)
theorem kf_of (c : He.SaysD hfa hfn K) : Kf K (clK K) where
  tree := He.cls_ok (c.fact 71 (f := .cls "Tree") rfl)
  hung := He.noat_ok (c.fact 72 (f := .noat "Tree" "hung") rfl)
  pic := He.cls_ok (c.fact 74 (f := .cls "Picture") rfl)
  view := He.noat_ok (c.fact 75 (f := .noat "Picture" "view") rfl)
  pblocks := He.noat_ok (c.fact 76 (f := .noat "Picture" "blocks") rfl)
  told := He.noat_ok (c.fact 77 (f := .noat "Picture" "told") rfl)
  lad := He.cls_ok (c.fact 79 (f := .cls "Laid") rfl)
  lblocks := He.noat_ok (c.fact 80 (f := .noat "Laid" "blocks") rfl)
  ties := He.noat_ok (c.fact 81 (f := .noat "Laid" "ties") rfl)
  piece := He.noat_ok (c.fact 82 (f := .noat "Laid" "piece") rfl)
  tops := He.noat_ok (c.fact 83 (f := .noat "Laid" "tops") rfl)
  lots := He.noat_ok (c.fact 84 (f := .noat "Laid" "lots") rfl)
  every := He.noat_ok (c.fact 85 (f := .noat "Laid" "every") rfl)
theorem ke_of (X : K.In h) (G : h.Ns mainGlobals mg) (c : He.SaysD hfa hfn K) (e : hexB K = true) : Ke K mg (He.ga K "TooMany") (He.ga K "NotFitting") := by
  obtain ⟨e1, e⟩ := He.ba e
  obtain ⟨e2, e⟩ := He.ba e
  obtain ⟨e3, e⟩ := He.ba e
  exact ⟨oexB_ok e1, xfB_ok e2, He.eqO_ok e3, He.glo_ok X G (c.fact 46 (f := .glo "TooMany") rfl), He.glo_ok X G (c.fact 47 (f := .glo "NotFitting") rfl), He.exm_ok (c.fact 90 (f := .exm "TooMany" "TooMany" true) rfl), He.exm_ok (c.fact 91 (f := .exm "NotFitting" "TooMany" false) rfl), He.exm_ok (c.fact 92 (f := .exm "NotFitting" "NotFitting" true) rfl)⟩
theorem kn_of (c : He.SaysD hfa hfn K) : Kn K (He.ga K "NotFitting") := by
  obtain ⟨h1, h2, h3, h4⟩ := He.exc_ok (c.fact 95 (f := .exc "NotFitting") rfl)
  exact ⟨h1, h2, h3, h4⟩
theorem law_facts (X : K.In h) (G : h.Ns mainGlobals mg) (c : He.SaysD hfa hfn K) (e : hexB K = true) {Pl Pg : Addr} (TBl : TabB base mg (He.codeOf K ("law", none)) Pl) (TBg : TabB base mg (He.codeOf K ("_law_great_right", none)) Pg) (hne : Pl ≠ Pg) {fdL : FuncData} (FL : FnA K "law" "law" s_law (He.fAd K ("law", none)) fdL) : FnOk P W K mg base CX0 22 (He.fAd K ("law", none)) fdL ["_law_script"] (spLaw K Pl Pg) := by
  have B := bl_of X G c
  have N := gn_of X G c
  have kf := kf_of c
  have ke := ke_of X G c e
  have kn := kn_of c
  have hM : ∀ Q, Pc Q → LayP Q := fun Q h => Mt.layP h
  obtain ⟨fd_TooMany_init, F_TooMany_init⟩ := c.def_ 0 (d := d_TooMany_init) rfl
  have F_TooMany_init : FnA K "__init__" "TooMany.__init__" s_TooMany_init (He.fAd K ("TooMany", some "__init__")) fd_TooMany_init := F_TooMany_init
  have b_TooMany_init : L2.Binds K fd_TooMany_init ["self", "most"] [] := FunD.bindsN F_TooMany_init fun _ _ _ _ _ _ us hl => match us, hl with | [_, _], _ => rfl
  have kt : KTM P W K mg base (He.ga K "TooMany") := by
    obtain ⟨e1, e⟩ := He.ba e
    obtain ⟨e2, e⟩ := He.ba e
    obtain ⟨e3, e⟩ := He.ba e
    obtain ⟨e4, e⟩ := He.ba e
    obtain ⟨e5, e⟩ := He.ba e
    exact ⟨_, _, ok_TooMany_init ke F_TooMany_init, He.eqO_ok e4, of_decide_eq_true e5, b_TooMany_init⟩
  obtain ⟨fd_is_integer, F_is_integer⟩ := c.def_ 1 (d := d_is_integer) rfl
  have F_is_integer : FnA K "is_integer" "is_integer" s_is_integer (He.fAd K ("is_integer", none)) fd_is_integer := F_is_integer
  have b_is_integer : L2.Binds K fd_is_integer ["thing"] [] := FunD.bindsN F_is_integer fun _ _ _ _ _ _ us hl => match us, hl with | [_], _ => rfl
  have c_is_integer : C_is_integer P W K mg base (clK K) := fun i => mk_cal F_is_integer (He.glo_ok X G (c.fact 0 (f := .glo "is_integer") rfl)) b_is_integer (ok_is_integer B F_is_integer i)
  obtain ⟨fd_is_within, F_is_within⟩ := c.def_ 2 (d := d_is_within) rfl
  have F_is_within : FnA K "is_within" "is_within" s_is_within (He.fAd K ("is_within", none)) fd_is_within := F_is_within
  have b_is_within : L2.Binds K fd_is_within ["thing", "least", "most"] [] := FunD.bindsN F_is_within fun _ _ _ _ _ _ us hl => match us, hl with | [_, _, _], _ => rfl
  have c_is_within : C_is_within P W K mg base (clK K) := fun i j k => mk_cal F_is_within (He.glo_ok X G (c.fact 1 (f := .glo "is_within") rfl)) b_is_within (ok_is_within B F_is_within c_is_integer i j k)
  obtain ⟨fd_is_pair, F_is_pair⟩ := c.def_ 3 (d := d_is_pair) rfl
  have F_is_pair : FnA K "is_pair" "is_pair" s_is_pair (He.fAd K ("is_pair", none)) fd_is_pair := F_is_pair
  have b_is_pair : L2.Binds K fd_is_pair ["thing"] [] := FunD.bindsN F_is_pair fun _ _ _ _ _ _ us hl => match us, hl with | [_], _ => rfl
  have c_is_pair : C_is_pair P W K mg base (clK K) := fun xs => mk_cal F_is_pair (He.glo_ok X G (c.fact 2 (f := .glo "is_pair") rfl)) b_is_pair (ok_is_pair B F_is_pair xs)
  obtain ⟨fd_is_ascending, F_is_ascending⟩ := c.def_ 4 (d := d_is_ascending) rfl
  have F_is_ascending : FnA K "is_ascending" "is_ascending" s_is_ascending (He.fAd K ("is_ascending", none)) fd_is_ascending := F_is_ascending
  have b_is_ascending : L2.Binds K fd_is_ascending ["items"] [] := FunD.bindsN F_is_ascending fun _ _ _ _ _ _ us hl => match us, hl with | [_], _ => rfl
  have c_is_ascending : C_is_ascending P W K mg base (clK K) := fun l => mk_cal F_is_ascending (He.glo_ok X G (c.fact 3 (f := .glo "is_ascending") rfl)) b_is_ascending (ok_is_ascending B F_is_ascending l)
  obtain ⟨fd_is_view, F_is_view⟩ := c.def_ 5 (d := d_is_view) rfl
  have F_is_view : FnA K "is_view" "is_view" s_is_view (He.fAd K ("is_view", none)) fd_is_view := F_is_view
  have b_is_view : L2.Binds K fd_is_view ["thing"] [] := FunD.bindsN F_is_view fun _ _ _ _ _ _ us hl => match us, hl with | [_], _ => rfl
  have c_is_view : C_is_view P W K mg base (clK K) := fun v => mk_cal F_is_view (He.glo_ok X G (c.fact 4 (f := .glo "is_view") rfl)) b_is_view (ok_is_view B N c_is_pair c_is_within F_is_view v)
  obtain ⟨fd_leads_home, F_leads_home⟩ := c.def_ 6 (d := d_leads_home) rfl
  have F_leads_home : FnA K "leads_home" "leads_home" s_leads_home (He.fAd K ("leads_home", none)) fd_leads_home := F_leads_home
  have b_leads_home : L2.Binds K fd_leads_home ["hung", "block"] [] := FunD.bindsN F_leads_home fun _ _ _ _ _ _ us hl => match us, hl with | [_, _], _ => rfl
  have c_leads_home : C_leads_home P W K mg base (clK K) := fun x b => mk_cal F_leads_home (He.glo_ok X G (c.fact 5 (f := .glo "leads_home") rfl)) b_leads_home (ok_leads_home B N.head F_leads_home x b)
  obtain ⟨fd_Tree_init, F_Tree_init⟩ := c.def_ 7 (d := d_Tree_init) rfl
  have F_Tree_init : FnA K "__init__" "Tree.__init__" s_Tree_init (He.fAd K ("Tree", some "__init__")) fd_Tree_init := F_Tree_init
  have b_Tree_init : L2.Binds K fd_Tree_init ["self", "hung"] [] := FunD.bindsN F_Tree_init fun _ _ _ _ _ _ us hl => match us, hl with | [_, _], _ => rfl
  have c_Tree_init : K_Tree P W K mg base (clK K) := fun x => ⟨_, _, ok_Tree_init B N kf c_is_within c_leads_home F_Tree_init x, He.glo_ok X G (c.fact 43 (f := .glo "Tree") rfl), He.mkr_ok (c.fact 73 (f := .mkr "Tree") rfl), b_Tree_init⟩
  obtain ⟨fd_parents_in, F_parents_in⟩ := c.def_ 8 (d := d_parents_in) rfl
  have F_parents_in : FnA K "parents_in" "parents_in" s_parents_in (He.fAd K ("parents_in", none)) fd_parents_in := F_parents_in
  have b_parents_in : L2.Binds K fd_parents_in ["hung", "place"] [] := FunD.bindsN F_parents_in fun _ _ _ _ _ _ us hl => match us, hl with | [_, _], _ => rfl
  have c_parents_in : C_parents_in P W K mg base (clK K) := fun x b => mk_cal F_parents_in (He.glo_ok X G (c.fact 6 (f := .glo "parents_in") rfl)) b_parents_in (ok_parents_in B N.head F_parents_in x b)
  obtain ⟨fd_hanging, F_hanging⟩ := c.def_ 9 (d := d_hanging) rfl
  have F_hanging : FnA K "hanging" "hanging" s_hanging (He.fAd K ("hanging", none)) fd_hanging := F_hanging
  have b_hanging : L2.Binds K fd_hanging ["hung", "place"] [] := FunD.bindsN F_hanging fun _ _ _ _ _ _ us hl => match us, hl with | [_, _], _ => rfl
  have c_hanging : C_hanging P W K mg base (clK K) := fun x p => mk_cal F_hanging (He.glo_ok X G (c.fact 7 (f := .glo "hanging") rfl)) b_hanging (ok_hanging B F_hanging x p)
  obtain ⟨fd_ties_down, F_ties_down⟩ := c.def_ 10 (d := d_ties_down) rfl
  have F_ties_down : FnA K "ties_down" "ties_down" s_ties_down (He.fAd K ("ties_down", none)) fd_ties_down := F_ties_down
  have b_ties_down : L2.Binds K fd_ties_down ["hung", "place", "steps"] [] := FunD.bindsN F_ties_down fun _ _ _ _ _ _ us hl => match us, hl with | [_, _, _], _ => rfl
  have c_ties_down : C_ties_down P W K mg base (clK K) := fun x p k => mk_cal F_ties_down (He.glo_ok X G (c.fact 8 (f := .glo "ties_down") rfl)) b_ties_down (ok_ties_down B c_hanging F_ties_down x p k)
  obtain ⟨fd_raw_telling, F_raw_telling⟩ := c.def_ 11 (d := d_raw_telling) rfl
  have F_raw_telling : FnA K "raw_telling" "raw_telling" s_raw_telling (He.fAd K ("raw_telling", none)) fd_raw_telling := F_raw_telling
  have b_raw_telling : L2.Binds K fd_raw_telling ["hung", "view", "place"] [] := FunD.bindsN F_raw_telling fun _ _ _ _ _ _ us hl => match us, hl with | [_, _, _], _ => rfl
  have c_raw_telling : C_raw_telling P W K mg base (clK K) := fun x v p => mk_cal F_raw_telling (He.glo_ok X G (c.fact 9 (f := .glo "raw_telling") rfl)) b_raw_telling (ok_raw_telling B c_parents_in c_ties_down F_raw_telling x v p)
  obtain ⟨fd_raw_distance, F_raw_distance⟩ := c.def_ 12 (d := d_raw_distance) rfl
  have F_raw_distance : FnA K "raw_distance" "raw_distance" s_raw_distance (He.fAd K ("raw_distance", none)) fd_raw_distance := F_raw_distance
  have b_raw_distance : L2.Binds K fd_raw_distance ["view"] [] := FunD.bindsN F_raw_distance fun _ _ _ _ _ _ us hl => match us, hl with | [_], _ => rfl
  have c_raw_distance : C_raw_distance P W K mg base (clK K) := fun v => mk_cal F_raw_distance (He.glo_ok X G (c.fact 10 (f := .glo "raw_distance") rfl)) b_raw_distance (ok_raw_distance B F_raw_distance v)
  obtain ⟨fd_is_tie, F_is_tie⟩ := c.def_ 13 (d := d_is_tie) rfl
  have F_is_tie : FnA K "is_tie" "is_tie" s_is_tie (He.fAd K ("is_tie", none)) fd_is_tie := F_is_tie
  have b_is_tie : L2.Binds K fd_is_tie ["blocks", "thing"] [] := FunD.bindsN F_is_tie fun _ _ _ _ _ _ us hl => match us, hl with | [_, _], _ => rfl
  have c_is_tie : C_is_tie P W K mg base (clK K) := fun n q => mk_cal F_is_tie (He.glo_ok X G (c.fact 11 (f := .glo "is_tie") rfl)) b_is_tie (ok_is_tie B c_is_pair c_is_within F_is_tie n q)
  obtain ⟨fd_has_form, F_has_form⟩ := c.def_ 14 (d := d_has_form) rfl
  have F_has_form : FnA K "has_form" "has_form" s_has_form (He.fAd K ("has_form", none)) fd_has_form := F_has_form
  have b_has_form : L2.Binds K fd_has_form ["view", "blocks", "place", "thing"] [] := FunD.bindsN F_has_form fun _ _ _ _ _ _ us hl => match us, hl with | [_, _, _, _], _ => rfl
  have c_has_form : C_has_form P W K mg base (clK K) := fun v n p t => mk_cal F_has_form (He.glo_ok X G (c.fact 12 (f := .glo "has_form") rfl)) b_has_form (ok_has_form B N c_is_pair c_is_within c_is_tie c_is_ascending F_has_form v n p t)
  obtain ⟨fd_Picture_init, F_Picture_init⟩ := c.def_ 15 (d := d_Picture_init) rfl
  have F_Picture_init : FnA K "__init__" "Picture.__init__" s_Picture_init (He.fAd K ("Picture", some "__init__")) fd_Picture_init := F_Picture_init
  have b_Picture_init : L2.Binds K fd_Picture_init ["self", "view", "blocks", "told"] [] := FunD.bindsN F_Picture_init fun _ _ _ _ _ _ us hl => match us, hl with | [_, _, _, _], _ => rfl
  have c_Picture_init : K_Picture P W K mg base (clK K) := fun Q => ⟨_, _, ok_Picture_init B N kf c_is_view c_is_within c_has_form F_Picture_init Q, He.glo_ok X G (c.fact 44 (f := .glo "Picture") rfl), He.mkr_ok (c.fact 78 (f := .mkr "Picture") rfl), b_Picture_init⟩
  have cj_Picture : KJ_Picture P W K mg base (clK K) := ⟨_, _, fn_joinI fun Q => ok_Picture_init B N kf c_is_view c_is_within c_has_form F_Picture_init Q, He.glo_ok X G (c.fact 44 (f := .glo "Picture") rfl), He.mkr_ok (c.fact 78 (f := .mkr "Picture") rfl), b_Picture_init⟩
  obtain ⟨fd_without, F_without⟩ := c.def_ 16 (d := d_without) rfl
  have F_without : FnA K "without" "without" s_without (He.fAd K ("without", none)) fd_without := F_without
  have b_without : L2.Binds K fd_without ["picture", "blocks"] [] := FunD.bindsN F_without fun _ _ _ _ _ _ us hl => match us, hl with | [_, _], _ => rfl
  have c_without : C_without P W K mg base (clK K) := fun Q l => mk_cal F_without (He.glo_ok X G (c.fact 13 (f := .glo "without") rfl)) b_without (ok_without B kf c_Picture_init F_without Q l)
  obtain ⟨fd_does_fit, F_does_fit⟩ := c.def_ 17 (d := d_does_fit) rfl
  have F_does_fit : FnA K "does_fit" "does_fit" s_does_fit (He.fAd K ("does_fit", none)) fd_does_fit := F_does_fit
  have b_does_fit : L2.Binds K fd_does_fit ["picture", "hung"] [] := FunD.bindsN F_does_fit fun _ _ _ _ _ _ us hl => match us, hl with | [_, _], _ => rfl
  have c_does_fit : C_does_fit P W K mg base (clK K) := fun Q x => mk_cal F_does_fit (He.glo_ok X G (c.fact 14 (f := .glo "does_fit") rfl)) b_does_fit (ok_does_fit B kf c_raw_telling F_does_fit Q x)
  obtain ⟨fd_told_ties, F_told_ties⟩ := c.def_ 18 (d := d_told_ties) rfl
  have F_told_ties : FnA K "told_ties" "told_ties" s_told_ties (He.fAd K ("told_ties", none)) fd_told_ties := F_told_ties
  have b_told_ties : L2.Binds K fd_told_ties ["picture"] [] := FunD.bindsN F_told_ties fun _ _ _ _ _ _ us hl => match us, hl with | [_], _ => rfl
  have c_told_ties : C_told_ties P W K mg base (clK K) := fun Q => mk_cal F_told_ties (He.glo_ok X G (c.fact 15 (f := .glo "told_ties") rfl)) b_told_ties (ok_told_ties B kf F_told_ties Q)
  obtain ⟨fd_ties_known, F_ties_known⟩ := c.def_ 19 (d := d_ties_known) rfl
  have F_ties_known : FnA K "ties_known" "ties_known" s_ties_known (He.fAd K ("ties_known", none)) fd_ties_known := F_ties_known
  have b_ties_known : L2.Binds K fd_ties_known ["picture"] [] := FunD.bindsN F_ties_known fun _ _ _ _ _ _ us hl => match us, hl with | [_], _ => rfl
  have c_ties_known : C_ties_known P W K mg base (clK K) := fun Q => mk_cal F_ties_known (He.glo_ok X G (c.fact 16 (f := .glo "ties_known") rfl)) b_ties_known (ok_ties_known B N c_told_ties F_ties_known Q)
  obtain ⟨fd_way_up, F_way_up⟩ := c.def_ 20 (d := d_way_up) rfl
  have F_way_up : FnA K "way_up" "way_up" s_way_up (He.fAd K ("way_up", none)) fd_way_up := F_way_up
  have b_way_up : L2.Binds K fd_way_up ["ties", "place", "most"] [] := FunD.bindsN F_way_up fun _ _ _ _ _ _ us hl => match us, hl with | [_, _, _], _ => rfl
  have c_way_up : C_way_up P W K mg base (clK K) := fun t p k => mk_cal F_way_up (He.glo_ok X G (c.fact 17 (f := .glo "way_up") rfl)) b_way_up (ok_way_up B F_way_up t p k)
  obtain ⟨fd_Laid_init, F_Laid_init⟩ := c.def_ 21 (d := d_Laid_init) rfl
  have F_Laid_init : FnA K "__init__" "Laid.__init__" s_Laid_init (He.fAd K ("Laid", some "__init__")) fd_Laid_init := F_Laid_init
  have b_Laid_init : L2.Binds K fd_Laid_init ["self", "picture", "ties", "ways"] [] := FunD.bindsN F_Laid_init fun _ _ _ _ _ _ us hl => match us, hl with | [_, _, _, _], _ => rfl
  have c_Laid_init : K_Laid P W K mg base (clK K) := fun Q t w => ⟨_, _, ok_Laid_init B kf F_Laid_init Q t w, He.glo_ok X G (c.fact 45 (f := .glo "Laid") rfl), He.mkr_ok (c.fact 86 (f := .mkr "Laid") rfl), b_Laid_init⟩
  obtain ⟨fd_Laid_many, F_Laid_many⟩ := c.def_ 22 (d := d_Laid_many) rfl
  have F_Laid_many : FnA K "many" "Laid.many" s_Laid_many (He.fAd K ("Laid", some "many")) fd_Laid_many := F_Laid_many
  have b_Laid_many : L2.Binds K fd_Laid_many ["self"] [] := FunD.bindsN F_Laid_many fun _ _ _ _ _ _ us hl => match us, hl with | [_], _ => rfl
  have c_Laid_many : M_many P W K mg base (clK K) := fun L => ⟨_, _, ok_many B kf F_Laid_many L, kf.lad, He.meth_ok (c.fact 87 (f := .meth "Laid" "many") rfl), b_Laid_many⟩
  obtain ⟨fd_Laid_hung_by, F_Laid_hung_by⟩ := c.def_ 23 (d := d_Laid_hung_by) rfl
  have F_Laid_hung_by : FnA K "hung_by" "Laid.hung_by" s_Laid_hung_by (He.fAd K ("Laid", some "hung_by")) fd_Laid_hung_by := F_Laid_hung_by
  have b_Laid_hung_by : L2.Binds K fd_Laid_hung_by ["self", "notes"] [] := FunD.bindsN F_Laid_hung_by fun _ _ _ _ _ _ us hl => match us, hl with | [_, _], _ => rfl
  have c_Laid_hung_by : M_hung_by P W K mg base (clK K) := fun L ns => ⟨_, _, ok_hung_by B kf F_Laid_hung_by L ns, kf.lad, He.meth_ok (c.fact 88 (f := .meth "Laid" "hung_by") rfl), b_Laid_hung_by⟩
  obtain ⟨fd_Laid_digits, F_Laid_digits⟩ := c.def_ 24 (d := d_Laid_digits) rfl
  have F_Laid_digits : FnA K "digits" "Laid.digits" s_Laid_digits (He.fAd K ("Laid", some "digits")) fd_Laid_digits := F_Laid_digits
  have b_Laid_digits : L2.Binds K fd_Laid_digits ["self"] [] := FunD.bindsN F_Laid_digits fun _ _ _ _ _ _ us hl => match us, hl with | [_], _ => rfl
  have c_Laid_digits : M_digits P W K mg base (clK K) := fun L => ⟨_, _, ok_digits B kf F_Laid_digits L, kf.lad, He.meth_ok (c.fact 89 (f := .meth "Laid" "digits") rfl), b_Laid_digits⟩
  obtain ⟨fd_laid_or_none, F_laid_or_none⟩ := c.def_ 25 (d := d_laid_or_none) rfl
  have F_laid_or_none : FnA K "laid_or_none" "laid_or_none" s_laid_or_none (He.fAd K ("laid_or_none", none)) fd_laid_or_none := F_laid_or_none
  have b_laid_or_none : L2.Binds K fd_laid_or_none ["picture"] [] := FunD.bindsN F_laid_or_none fun _ _ _ _ _ _ us hl => match us, hl with | [_], _ => rfl
  have c_laid_or_none : C_laid_or_none P W K mg base (clK K) := fun Q => mk_cal F_laid_or_none (He.glo_ok X G (c.fact 18 (f := .glo "laid_or_none") rfl)) b_laid_or_none (ok_laid_or_none B kf c_ties_known c_way_up c_Laid_init c_Laid_hung_by c_Laid_digits c_does_fit F_laid_or_none Q)
  obtain ⟨fd_raw_tree_at, F_raw_tree_at⟩ := c.def_ 26 (d := d_raw_tree_at) rfl
  have F_raw_tree_at : FnA K "raw_tree_at" "raw_tree_at" s_raw_tree_at (He.fAd K ("raw_tree_at", none)) fd_raw_tree_at := F_raw_tree_at
  have b_raw_tree_at : L2.Binds K fd_raw_tree_at ["found", "number"] [] := FunD.bindsN F_raw_tree_at fun _ _ _ _ _ _ us hl => match us, hl with | [_, _], _ => rfl
  have c_raw_tree_at : C_raw_tree_at P W K mg base (clK K) := fun L m => mk_cal F_raw_tree_at (He.glo_ok X G (c.fact 19 (f := .glo "raw_tree_at") rfl)) b_raw_tree_at (ok_raw_tree_at B kf c_Laid_hung_by c_Laid_digits c_Tree_init F_raw_tree_at L m)
  obtain ⟨fd_told_blocks, F_told_blocks⟩ := c.def_ 27 (d := d_told_blocks) rfl
  have F_told_blocks : FnA K "told_blocks" "told_blocks" s_told_blocks (He.fAd K ("told_blocks", none)) fd_told_blocks := F_told_blocks
  have b_told_blocks : L2.Binds K fd_told_blocks ["picture"] [] := FunD.bindsN F_told_blocks fun _ _ _ _ _ _ us hl => match us, hl with | [_], _ => rfl
  have c_told_blocks : C_told_blocks P W K mg base (clK K) := fun Q => mk_cal F_told_blocks (He.glo_ok X G (c.fact 20 (f := .glo "told_blocks") rfl)) b_told_blocks (ok_told_blocks B N kf F_told_blocks Q)
  obtain ⟨fd_tells, F_tells⟩ := c.def_ 28 (d := d_tells) rfl
  have F_tells : FnA K "tells" "tells" s_tells (He.fAd K ("tells", none)) fd_tells := F_tells
  have b_tells : L2.Binds K fd_tells ["picture", "tree", "place"] [] := FunD.bindsN F_tells fun _ _ _ _ _ _ us hl => match us, hl with | [_, _, _], _ => rfl
  have c_tells : C_tells P W K mg base (clK K) := fun Q x p => mk_cal F_tells (He.glo_ok X G (c.fact 21 (f := .glo "tells") rfl)) b_tells (ok_tells B kf c_raw_telling F_tells Q x p)
  obtain ⟨fd_wrong, F_wrong⟩ := c.def_ 29 (d := d_wrong) rfl
  have F_wrong : FnA K "wrong" "wrong" s_wrong (He.fAd K ("wrong", none)) fd_wrong := F_wrong
  have b_wrong : L2.Binds K fd_wrong ["picture", "tree"] [] := FunD.bindsN F_wrong fun _ _ _ _ _ _ us hl => match us, hl with | [_, _], _ => rfl
  have c_wrong : C_wrong P W K mg base (clK K) := fun Q x => mk_cal F_wrong (He.glo_ok X G (c.fact 22 (f := .glo "wrong") rfl)) b_wrong (ok_wrong B N kf c_tells c_told_blocks F_wrong Q x)
  have r_wrong : R_wrong P W K mg base (clK K) (He.ga K "NotFitting") := fun Q x => mk_cal F_wrong (He.glo_ok X G (c.fact 22 (f := .glo "wrong") rfl)) b_wrong (ok_wrong_r ke kn B N kf c_tells F_wrong Q x)
  obtain ⟨fd_lots_of, F_lots_of⟩ := c.def_ 30 (d := d_lots_of) rfl
  have F_lots_of : FnA K "lots_of" "lots_of" s_lots_of (He.fAd K ("lots_of", none)) fd_lots_of := F_lots_of
  have b_lots_of : L2.Binds K fd_lots_of ["things", "many"] [] := FunD.bindsN F_lots_of fun _ _ _ _ _ _ us hl => match us, hl with | [_, _], _ => rfl
  have c_lots_of : C_lots_of P W K mg base (clK K) := fun t k => mk_cal F_lots_of (He.glo_ok X G (c.fact 23 (f := .glo "lots_of") rfl)) b_lots_of (ok_lots_of B F_lots_of t k)
  obtain ⟨fd_laid_without, F_laid_without⟩ := c.def_ 31 (d := d_laid_without) rfl
  have F_laid_without : FnA K "laid_without" "laid_without" s_laid_without (He.fAd K ("laid_without", none)) fd_laid_without := F_laid_without
  have b_laid_without : L2.Binds K fd_laid_without ["picture", "many"] [] := FunD.bindsN F_laid_without fun _ _ _ _ _ _ us hl => match us, hl with | [_, _], _ => rfl
  have c_laid_without : C_laid_without P W K mg base (clK K) := fun Q k => mk_cal F_laid_without (He.glo_ok X G (c.fact 24 (f := .glo "laid_without") rfl)) b_laid_without (ok_laid_without hM B c_told_blocks c_lots_of c_without c_laid_or_none F_laid_without Q k)
  obtain ⟨fd_mended, F_mended⟩ := c.def_ 32 (d := d_mended) rfl
  have F_mended : FnA K "mended" "mended" s_mended (He.fAd K ("mended", none)) fd_mended := F_mended
  have b_mended : L2.Binds K fd_mended ["picture"] [] := FunD.bindsN F_mended fun _ _ _ _ _ _ us hl => match us, hl with | [_], _ => rfl
  have c_mended : C_mended P W K mg base (clK K) := fun Q => mk_cal F_mended (He.glo_ok X G (c.fact 25 (f := .glo "mended") rfl)) b_mended (ok_mended hM B kf c_told_blocks c_raw_distance c_laid_without c_raw_tree_at F_mended Q)
  obtain ⟨fd_nearest_laid, F_nearest_laid⟩ := c.def_ 33 (d := d_nearest_laid) rfl
  have F_nearest_laid : FnA K "nearest_laid" "nearest_laid" s_nearest_laid (He.fAd K ("nearest_laid", none)) fd_nearest_laid := F_nearest_laid
  have b_nearest_laid : L2.Binds K fd_nearest_laid ["picture"] [] := FunD.bindsN F_nearest_laid fun _ _ _ _ _ _ us hl => match us, hl with | [_], _ => rfl
  have c_nearest_laid : C_nearest_laid P W K mg base (clK K) := fun Q => mk_cal F_nearest_laid (He.glo_ok X G (c.fact 26 (f := .glo "nearest_laid") rfl)) b_nearest_laid (ok_nearest_laid hM B N kf c_told_blocks c_Laid_many c_laid_without F_nearest_laid Q)
  have r_nearest_laid : R_nearest_laid P W K mg base (clK K) (He.ga K "TooMany") := fun Q k => mk_cal F_nearest_laid (He.glo_ok X G (c.fact 26 (f := .glo "nearest_laid") rfl)) b_nearest_laid (ok_nearest_laid_r ke kt hM B N kf c_told_blocks c_Laid_many c_laid_without F_nearest_laid Q k)
  obtain ⟨fd_nearest, F_nearest⟩ := c.def_ 34 (d := d_nearest) rfl
  have F_nearest : FnA K "nearest" "nearest" s_nearest (He.fAd K ("nearest", none)) fd_nearest := F_nearest
  have b_nearest : L2.Binds K fd_nearest ["picture"] [] := FunD.bindsN F_nearest fun _ _ _ _ _ _ us hl => match us, hl with | [_], _ => rfl
  have c_nearest : C_nearest P W K mg base (clK K) := fun Q => mk_cal F_nearest (He.glo_ok X G (c.fact 27 (f := .glo "nearest") rfl)) b_nearest (ok_nearest hM B kf c_nearest_laid c_Laid_many c_raw_tree_at c_Tree_init F_nearest Q)
  have r_nearest : R_nearest P W K mg base (clK K) (He.ga K "TooMany") := fun Q k => mk_cal F_nearest (He.glo_ok X G (c.fact 27 (f := .glo "nearest") rfl)) b_nearest (ok_nearest_r r_nearest_laid F_nearest Q k)
  obtain ⟨fd_least_wrong, F_least_wrong⟩ := c.def_ 35 (d := d_least_wrong) rfl
  have F_least_wrong : FnA K "least_wrong" "least_wrong" s_least_wrong (He.fAd K ("least_wrong", none)) fd_least_wrong := F_least_wrong
  have b_least_wrong : L2.Binds K fd_least_wrong ["picture"] [] := FunD.bindsN F_least_wrong fun _ _ _ _ _ _ us hl => match us, hl with | [_], _ => rfl
  have c_least_wrong : C_least_wrong P W K mg base (clK K) := fun Q => mk_cal F_least_wrong (He.glo_ok X G (c.fact 28 (f := .glo "least_wrong") rfl)) b_least_wrong (ok_least_wrong B c_nearest_laid F_least_wrong Q)
  have r_least_wrong : R_least_wrong P W K mg base (clK K) (He.ga K "TooMany") := fun Q k => mk_cal F_least_wrong (He.glo_ok X G (c.fact 28 (f := .glo "least_wrong") rfl)) b_least_wrong (ok_least_wrong_r r_nearest_laid F_least_wrong Q k)
  obtain ⟨fd_l_tape, F_l_tape⟩ := c.def_ 36 (d := d_l_tape) rfl
  have F_l_tape : FnA K "_law_tape" "_law_tape" s_l_tape (He.fAd K ("_law_tape", none)) fd_l_tape := F_l_tape
  have b_l_tape : L2.Binds K fd_l_tape ["_law_script"] [] := FunD.bindsN F_l_tape fun _ _ _ _ _ _ us hl => match us, hl with | [_], _ => rfl
  have c_l_tape : Cal P W K mg base CX0 1 "_law_tape" ["_law_script"] (spTp K (clK K)) := mk_cal F_l_tape (He.glo_ok X G (c.fact 29 (f := .glo "_law_tape") rfl)) b_l_tape (ok_l_tapeS B F_l_tape)
  obtain ⟨fd_l_pick, F_l_pick⟩ := c.def_ 37 (d := d_l_pick) rfl
  have F_l_pick : FnA K "_law_pick" "_law_pick" s_l_pick (He.fAd K ("_law_pick", none)) fd_l_pick := F_l_pick
  have b_l_pick : L2.Binds K fd_l_pick ["_law_tape_here", "_law_many"] [] := FunD.bindsN F_l_pick fun _ _ _ _ _ _ us hl => match us, hl with | [_, _], _ => rfl
  have c_l_pick : C_pick P W K mg base (clK K) := mk_cal F_l_pick (He.glo_ok X G (c.fact 30 (f := .glo "_law_pick") rfl)) b_l_pick (ok_l_pick B F_l_pick)
  obtain ⟨fd_l_any, F_l_any⟩ := c.def_ 38 (d := d_l_any) rfl
  have F_l_any : FnA K "_law_any" "_law_any" s_l_any (He.fAd K ("_law_any", none)) fd_l_any := F_l_any
  have b_l_any : L2.Binds K fd_l_any ["_law_tape_here", "_law_things"] [] := FunD.bindsN F_l_any fun _ _ _ _ _ _ us hl => match us, hl with | [_, _], _ => rfl
  have c_l_any : C_any P W K mg base (clK K) := mk_cal F_l_any (He.glo_ok X G (c.fact 31 (f := .glo "_law_any") rfl)) b_l_any (ok_l_any B c_l_pick F_l_any)
  obtain ⟨fd_l_mixed, F_l_mixed⟩ := c.def_ 39 (d := d_l_mixed) rfl
  have F_l_mixed : FnA K "_law_mixed" "_law_mixed" s_l_mixed (He.fAd K ("_law_mixed", none)) fd_l_mixed := F_l_mixed
  have b_l_mixed : L2.Binds K fd_l_mixed ["_law_tape_here", "_law_things"] [] := FunD.bindsN F_l_mixed fun _ _ _ _ _ _ us hl => match us, hl with | [_, _], _ => rfl
  have c_l_mixed : C_mixed P W K mg base (clK K) := mk_cal F_l_mixed (He.glo_ok X G (c.fact 32 (f := .glo "_law_mixed") rfl)) b_l_mixed (ok_l_mixed B c_l_pick F_l_mixed)
  obtain ⟨fd_l_lot, F_l_lot⟩ := c.def_ 44 (d := d_l_lot) rfl
  have F_l_lot : FnA K "_law_lot" "_law_lot" s_l_lot (He.fAd K ("_law_lot", none)) fd_l_lot := F_l_lot
  have b_l_lot : L2.Binds K fd_l_lot ["_law_tape_here", "_law_things", "_law_many"] [] := FunD.bindsN F_l_lot fun _ _ _ _ _ _ us hl => match us, hl with | [_, _, _], _ => rfl
  have c_l_lot : C_lot P W K mg base (clK K) := mk_cal F_l_lot (He.glo_ok X G (c.fact 37 (f := .glo "_law_lot") rfl)) b_l_lot (ok_l_lot B c_l_mixed F_l_lot)
  obtain ⟨fd_l_goes_home, F_l_goes_home⟩ := c.def_ 41 (d := d_l_goes_home) rfl
  have F_l_goes_home : FnA K "_law_goes_home" "_law_goes_home" s_l_goes_home (He.fAd K ("_law_goes_home", none)) fd_l_goes_home := F_l_goes_home
  have b_l_goes_home : L2.Binds K fd_l_goes_home ["_law_hung"] [] := FunD.bindsN F_l_goes_home fun _ _ _ _ _ _ us hl => match us, hl with | [_], _ => rfl
  have c_l_goes_home : C_goes_home P W K mg base (clK K) := fun x => mk_cal F_l_goes_home (He.glo_ok X G (c.fact 34 (f := .glo "_law_goes_home") rfl)) b_l_goes_home (ok_l_goes_home B F_l_goes_home x)
  obtain ⟨fd_l_trees, F_l_trees⟩ := c.def_ 40 (d := d_l_trees) rfl
  have F_l_trees : FnA K "_law_trees" "_law_trees" s_l_trees (He.fAd K ("_law_trees", none)) fd_l_trees := F_l_trees
  have b_l_trees : L2.Binds K fd_l_trees ["_law_blocks"] [] := FunD.bindsN F_l_trees fun _ _ _ _ _ _ us hl => match us, hl with | [_], _ => rfl
  have c_l_trees : C_trees P W K mg base (clK K) := fun n => mk_cal F_l_trees (He.glo_ok X G (c.fact 33 (f := .glo "_law_trees") rfl)) b_l_trees (ok_l_trees B c_l_goes_home F_l_trees n)
  obtain ⟨fd_l_telling, F_l_telling⟩ := c.def_ 42 (d := d_l_telling) rfl
  have F_l_telling : FnA K "_law_telling" "_law_telling" s_l_telling (He.fAd K ("_law_telling", none)) fd_l_telling := F_l_telling
  have b_l_telling : L2.Binds K fd_l_telling ["_law_hung", "_law_view", "_law_place"] [] := FunD.bindsN F_l_telling fun _ _ _ _ _ _ us hl => match us, hl with | [_, _, _], _ => rfl
  have c_l_telling : C_telling P W K mg base (clK K) := mk_cal F_l_telling (He.glo_ok X G (c.fact 35 (f := .glo "_law_telling") rfl)) b_l_telling (fn_join fun i => ok_l_telling B F_l_telling i)
  obtain ⟨fd_l_told, F_l_told⟩ := c.def_ 43 (d := d_l_told) rfl
  have F_l_told : FnA K "_law_told" "_law_told" s_l_told (He.fAd K ("_law_told", none)) fd_l_told := F_l_told
  have b_l_told : L2.Binds K fd_l_told ["_law_hung", "_law_view", "_law_lost"] [] := FunD.bindsN F_l_told fun _ _ _ _ _ _ us hl => match us, hl with | [_, _, _], _ => rfl
  have c_l_told : C_told P W K mg base (clK K) := mk_cal F_l_told (He.glo_ok X G (c.fact 36 (f := .glo "_law_told") rfl)) b_l_told (ok_l_told B c_l_telling F_l_told)
  obtain ⟨fd_l_other, F_l_other⟩ := c.def_ 45 (d := d_l_other) rfl
  have F_l_other : FnA K "_law_other" "_law_other" s_l_other (He.fAd K ("_law_other", none)) fd_l_other := F_l_other
  have b_l_other : L2.Binds K fd_l_other ["_law_tape_here", "_law_hung", "_law_view", "_law_place"] [] := FunD.bindsN F_l_other fun _ _ _ _ _ _ us hl => match us, hl with | [_, _, _, _], _ => rfl
  have c_l_other : C_other P W K mg base (clK K) := mk_cal F_l_other (He.glo_ok X G (c.fact 38 (f := .glo "_law_other") rfl)) b_l_other (ok_l_other Mt.lawM.tf B c_l_pick c_l_any c_l_trees c_l_telling F_l_other)
  obtain ⟨fd_l_due, F_l_due⟩ := c.def_ 47 (d := d_l_due) rfl
  have F_l_due : FnA K "_law_due" "_law_due" s_l_due (He.fAd K ("_law_due", none)) fd_l_due := F_l_due
  have b_l_due : L2.Binds K fd_l_due ["_law_trees_here", "_law_view", "_law_told_here"] [] := FunD.bindsN F_l_due fun _ _ _ _ _ _ us hl => match us, hl with | [_, _, _], _ => rfl
  have c_l_due : C_due P W K mg base (clK K) := fun n ts v t => mk_cal F_l_due (He.glo_ok X G (c.fact 40 (f := .glo "_law_due") rfl)) b_l_due (ok_l_due B c_l_telling F_l_due n ts v t)
  obtain ⟨fd_l_word, F_l_word⟩ := c.def_ 46 (d := d_l_word) rfl
  have F_l_word : FnA K "_law_word" "_law_word" s_l_word (He.fAd K ("_law_word", none)) fd_l_word := F_l_word
  have b_l_word : L2.Binds K fd_l_word ["_law_call"] [] := FunD.bindsN F_l_word fun _ _ _ _ _ _ us hl => match us, hl with | [_], _ => rfl
  obtain ⟨fd_l_great_right, F_l_great_right⟩ := c.def_ 48 (d := d_l_great_right) rfl
  have F_l_great_right : FnA K "_law_great_right" "_law_great_right" s_l_great_right (He.fAd K ("_law_great_right", none)) fd_l_great_right := F_l_great_right
  have b_l_great_right : L2.Binds K fd_l_great_right ["_law_tape_here"] [] := FunD.bindsN F_l_great_right fun _ _ _ _ _ _ us hl => match us, hl with | [_], _ => rfl
  have c_great : Cal P W K mg base CX0 20 "_law_great_right" ["_law_tape_here"] (spG K (clK K) Pg (lamL "_law_great_right")) := mk_cal F_l_great_right (He.glo_ok X G (c.fact 41 (f := .glo "_law_great_right") rfl)) b_l_great_right (ok_l_great_right B kf ke TBg F_l_word (He.glo_ok X G (c.fact 39 (f := .glo "_law_word") rfl)) c_l_pick c_Picture_init cj_Picture r_nearest r_least_wrong F_l_great_right)
  have LC : LawC P W K mg base (clK K) (He.ga K "TooMany") (He.ga K "NotFitting") := ⟨B, kf, ke, c_l_pick, c_l_any, c_l_lot, c_l_trees, c_l_told, c_l_telling, c_l_other, c_l_due, c_Picture_init, c_Tree_init, c_least_wrong, c_nearest, c_mended, c_wrong, r_wrong, _, _, F_l_word, He.glo_ok X G (c.fact 39 (f := .glo "_law_word") rfl)⟩
  exact ok_law LC Mt.lawM TBl hne c_l_tape c_great FL
end
end FV
set_option Elab.async false
set_option linter.all false
set_option maxRecDepth 100000
set_option maxHeartbeats 8000000
/-! The end. -/
namespace FV
open PySem PySem.Spec PyProof.Rows L2 LamX
theorem law_at (w : World) (mg : Str → Option Value) (fa : Addr) (h : Heap) (Y : hhk.says w h) (G : h.Ns mainGlobals mg) (hmg : mg ("law" : Str) = some (.ref fa)) : ∃ K : PySem.W.Frag, K.In h ∧ LawAtS PySem.Challenge.rw_foldervotes_k21_whole_nearest_trees_by_a w K L2.CX0 22 63 "_law_script" mg fa h := by
  obtain ⟨K, KX, c⟩ := Y
  have cd := c.t.d
  have e : hexB K = true := c.more
  obtain ⟨fd, FL⟩ := cd.def_ 49 (d := d_law) rfl
  have FL : FnA K "law" "law" s_law (He.fAd K ("law", none)) fd := FL
  have ef := hmg.symm.trans (He.glo_ok KX G (cd.fact 42 (f := .glo "law") rfl))
  cases ef
  have b := FunD.bindsA (ps := ["_law_script"]) FL fun _ _ _ _ _ _ us hl => match us, hl with | [_], _ => rfl
  have hne : (He.cT K ("law", none)).2 ≠ (He.cT K ("_law_great_right", none)).2 := by
    obtain ⟨_, e⟩ := He.ba e
    obtain ⟨_, e⟩ := He.ba e
    obtain ⟨_, e⟩ := He.ba e
    obtain ⟨_, e⟩ := He.ba e
    obtain ⟨_, e⟩ := He.ba e
    exact of_decide_eq_true e
  have m1 : (("law", none) : He.Defn) ∈ htf := List.mem_cons_of_mem _ List.mem_cons_self
  have m2 : (("_law_great_right", none) : He.Defn) ∈ htf := List.mem_cons_self
  have two : ∀ {Q : Addr × Addr → Prop}, Q (He.cT K ("law", none)) → Q (He.cT K ("_law_great_right", none)) → ∀ p ∈ [He.cT K ("law", none), He.cT K ("_law_great_right", none)], Q p := fun {Q} q1 q2 p hp => by
    rcases List.mem_cons.mp hp with rfl | hp
    · exact q1
    · rw [List.mem_singleton.mp hp]
      exact q2
  refine ⟨K, KX, fd, [He.cT K ("law", none), He.cT K ("_law_great_right", none)], spLaw K (He.cT K ("law", none)).2 (He.cT K ("_law_great_right", none)).2, two (c.empty _ m1) (c.empty _ m2), two (c.out _ m1) (c.out _ m2), two (PySem.W.codeHd_of_K KX (c.hd _ m1)) (PySem.W.codeHd_of_K KX (c.hd _ m2)), fun s v => b s [v] rfl, fun H a ns _ _ hT hS => ⟨a, ns, rfl, hS, hT _ List.mem_cons_self, hT _ (List.mem_cons_of_mem _ List.mem_cons_self), fun _ => rfl⟩, fun base KB GB TB => ?_⟩
  exact law_facts KX G cd e (TB _ List.mem_cons_self) (TB _ (List.mem_cons_of_mem _ List.mem_cons_self)) hne FL
end FV
open PySem PySem.W PySem.Calls PyProof.Rows
theorem PySem.Challenge.cw_foldervotes_k21_whole_nearest_trees_by_a_holds : PySem.Challenge.rw_foldervotes_k21_whole_nearest_trees_by_a.Holds := by
  w_on; o_law
  refine HandSHeadRun.head_any (r := OpenLaw.row PySem.Challenge.rw_foldervotes_k21_whole_nearest_trees_by_a) (q := view (OpenLaw.row PySem.Challenge.rw_foldervotes_k21_whole_nearest_trees_by_a).prog [65]) (H := FV.hhk) (ob := FV.hob) (M := 6000) (loose := FV.hloose) (d := HandSHeadRun.topDef (OpenLaw.row PySem.Challenge.rw_foldervotes_k21_whole_nearest_trees_by_a).prog 65) (kwd := []) FV.hob_eq
    (by kernel_rfl) (fun s => by kernel_rfl) FV.hrun (by kernel_rfl) (by kernel_rfl) (by kernel_rfl) (by rfl) (by first | assumption | decide +kernel) (by decide +kernel) ⟨rfl, rfl, rfl, rfl, rfl, by decide +kernel⟩ ?hw ?hc
  case hw => w_witness2
  case hc =>
    refine LamX.walk_ofTsE (l := PySem.Challenge.rw_foldervotes_k21_whole_nearest_trees_by_a) (n := 63) (k := 22) (x := "_law_script") (CX := fun _ => L2.CX0) rfl (by decide) (by kernel_rfl) ⟨rfl, by decide, by decide⟩ ?F (fun _ _ _ _ _ z => z)
    intro w mg fa h Y G hmg0
    have hmg : mg ("law" : PySem.Str) = some (.ref fa) := by
      have e : (HandSHeadRun.topDef (OpenLaw.row PySem.Challenge.rw_foldervotes_k21_whole_nearest_trees_by_a).prog 65).name = ("law" : PySem.Str) := by kernel_rfl
      rw [← e]
      exact hmg0
    exact FV.law_at w mg fa h Y G hmg
