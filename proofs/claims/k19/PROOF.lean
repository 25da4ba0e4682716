import PyProof.Rows.All
import PySem.Challenge.RW_sweetsring_k19_errors_apart
import Wide.All
import OpenK.AllK
import Wide.FinOn
import HandS.ForMost
import HandS.Walk
import HandS.Wide
import HandS.Property
import HandS.Star
import HandS.IsInst
import HandS.ForExc
import HandS.TupAny
import HandS.TupMul
import HandS.CallSlots
import HandS.Small
import HandS.RaiseMore
import HandS.Style
import HandS.Conv
import KE.GoesEnum
import HandS.ForSpec
import HandS.Defaults
import HandS.TryMany
import HandS.TupSets
import HandS.OwnEq
import HandS.ExcValue
import HandS.ExcField
import HandS.ExcIs
import KE.KExcIs
set_option Elab.async false
set_option autoImplicit false
set_option linter.all false
set_option maxRecDepth 100000
set_option maxHeartbeats 4000000
/-! PD: readings without a heap, over data. -/
namespace PD
open PySem PySem.Spec L2

inductive D where
  | non | bl (b : Bool) | int (i : Int) | str (s : Str)
  | lst (xs : List D) | tup (xs : List D)
  | gm (n s : Int) (ws : List Int)
  | dct | ptr (k : Nat)
  | scr (l : List Int)
  | ty (n : String) | gcl
  | exc (c f : Str) (y : D) | exn (c : Str) | ecl (c : Str)

inductive Cell where
  | dead | lst (xs : List D) | ins (C : Addr) (fs : List (Str × D)) | rng

abbrev MS := List Cell
abbrev En := List (Option D)

/-- what is fixed: the written part, the class Game, the error classes -/
structure Cn where
  K : PySem.W.Frag
  G : Addr
  cl : Str → Addr

def iL (l : List Int) : List D := l.map D.int

/-- an exception object: its class, its dict -/
def exV (a C : Addr) (d : Option Addr) : HO := .ext fun h => ∃ (oe : Obj) (vs : Array Value), h.get? a = some oe ∧ Zc (.ref C) d oe ∧ oe.data = .fields vs
mutual
inductive Rep (C : Cn) (th : List Addr) (F : Hp) : V → D → Prop
  | non : Rep C th F .non .non
  | bl (b : Bool) : Rep C th F (.bl b) (.bl b)
  | int (i : Int) : Rep C th F (.int i) (.int i)
  | str (x : Str) : Rep C th F (.str x) (.str x)
  | lst {a : Addr} {xs : List V} {ds : List D} : F a = some (.lst xs) → RepL C th F xs ds → Rep C th F (.ref a) (.lst ds)
  | tup {a : Addr} {xs : List V} {ds : List D} : F a = some (.tup xs) → RepL C th F xs ds → Rep C th F (.ref a) (.tup ds)
  | gm {a dx t : Addr} {n s : Int} {ws : List Int} : F a = some (.ins C.G dx [("size", .int n), ("share", .int s), ("ways", .ref t)]) → F t = some (.tup (ws.map V.int)) → Rep C th F (.ref a) (.gm n s ws)
  | scr {a : Addr} {l : List Int} : SqL C.K F a (l.map V.int) → Rep C th F (.ref a) (.scr l)
  | dct {a : Addr} : F a = some (.dK []) → Rep C th F (.ref a) .dct
  | ptr {a : Addr} {k : Nat} : th[k]? = some a → Rep C th F (.ref a) (.ptr k)
  | ty (n : String) : Rep C th F (.ty n) (.ty n)
  | gcl : Rep C th F (.ref C.G) .gcl
  | exc {a d : Addr} {v : V} {c f : Str} {y : D} : F a = some (exV a (C.cl c) (some d)) → F d = some (.xd [(f, v)]) → Rep C th F v y → Rep C th F (.ref a) (.exc c f y)
  | exn {a : Addr} {c : Str} : F a = some (exV a (C.cl c) none) → Rep C th F (.ref a) (.exn c)
  | ecl (c : Str) : Rep C th F (.ref (C.cl c)) (.ecl c)
inductive RepL (C : Cn) (th : List Addr) (F : Hp) : List V → List D → Prop
  | nil : RepL C th F [] []
  | cons {v : V} {vs : List V} {d : D} {ds : List D} : Rep C th F v d → RepL C th F vs ds → RepL C th F (v :: vs) (d :: ds)
end

abbrev Ex (H H' : Hp) : Prop := ∀ a o, H a = some o → H' a = some o
theorem Ex.rfl {H : Hp} : Ex H H := fun _ _ h => h
theorem Ex.tr {H H1 H2 : Hp} (a : Ex H H1) (b : Ex H1 H2) : Ex H H2 := fun x o h => b x o (a x o h)
theorem Ex.nw {H : Hp} {p : Addr} {o : HO} (h : H p = none) : Ex H (upd H p o) := fun a u e => by
  rw [upd_ne (ne_of_none e h)]
  exact e
theorem Ex.up {F H : Hp} {p : Addr} {o : HO} (e : Ex F H) : Ex (upd F p o) (upd H p o) := fun a u h => by
  by_cases q : a = p
  · subst q; rw [upd_same] at h ⊢; exact h
  · rw [upd_ne q] at h ⊢; exact e a u h
/-- F knows nothing of p: p may change -/
theorem Ex.mt {F H : Hp} {p : Addr} {o : HO} (e : Ex F H) (h : F p = none) : Ex F (upd H p o) := fun a u ha => by
  rw [upd_ne (ne_of_none ha h)]
  exact e a u ha
theorem Ex.fr {H H' : Hp} {p : Addr} (e : Ex H H') (h : H' p = none) : H p = none := by
  cases h1 : H p with
  | none => rfl
  | some o => rw [e p o h1] at h; cases h
theorem Ex.rd {H H' : Hp} {a : Addr} {u : HO} (e : Ex H H') (h : Rd H a u) : Rd H' a u := by
  rcases h with h | ⟨o, h⟩
  · exact .inl (e a _ h)
  · exact .inr ⟨o, e a _ h⟩
theorem Ex.sl {K : PySem.W.Frag} {H H' : Hp} {a : Addr} {xs : List V} (e : Ex H H') (h : SqL K H a xs) : SqL K H' a xs := h.elim (fun h => .inl (e.rd h)) .inr
theorem Ex.st {K : PySem.W.Frag} {H H' : Hp} {a : Addr} {xs : List V} (e : Ex H H') (h : SqT K H a xs) : SqT K H' a xs := h.elim (fun h => .inl (e.rd h)) .inr

/-- the later heap and cells know all that the earlier ones knew -/
structure Le (th : List Addr) (F : Hp) (th' : List Addr) (F' : Hp) : Prop where
  ex : Ex F F'
  pre : ∀ (k : Nat) (a : Addr), th[k]? = some a → th'[k]? = some a
theorem Le.rfl {th : List Addr} {F : Hp} : Le th F th F := ⟨Ex.rfl, fun _ _ h => h⟩
theorem Le.tr {th th1 th2 : List Addr} {F F1 F2 : Hp} (a : Le th F th1 F1) (b : Le th1 F1 th2 F2) : Le th F th2 F2 := ⟨a.ex.tr b.ex, fun k x h => b.pre k x (a.pre k x h)⟩
theorem Le.nw {th : List Addr} {F : Hp} {p : Addr} {o : HO} (h : F p = none) : Le th F th (upd F p o) := ⟨Ex.nw h, fun _ _ h => h⟩

mutual
theorem Rep.mono {C : Cn} {th th' : List Addr} {F F' : Hp} (l : Le th F th' F') : ∀ {v : V} {d : D}, Rep C th F v d → Rep C th' F' v d
  | _, _, .non => .non
  | _, _, .bl b => .bl b
  | _, _, .int i => .int i
  | _, _, .str x => .str x
  | _, _, .lst h r => .lst (l.ex _ _ h) (RepL.mono l r)
  | _, _, .tup h r => .tup (l.ex _ _ h) (RepL.mono l r)
  | _, _, .gm h r => .gm (l.ex _ _ h) (l.ex _ _ r)
  | _, _, .scr h => .scr (l.ex.sl h)
  | _, _, .dct h => .dct (l.ex _ _ h)
  | _, _, .ptr h => .ptr (l.pre _ _ h)
  | _, _, .ty n => .ty n
  | _, _, .gcl => .gcl
  | _, _, .exc h g r => .exc (l.ex _ _ h) (l.ex _ _ g) (Rep.mono l r)
  | _, _, .exn h => .exn (l.ex _ _ h)
  | _, _, .ecl c => .ecl c
theorem RepL.mono {C : Cn} {th th' : List Addr} {F F' : Hp} (l : Le th F th' F') : ∀ {vs : List V} {ds : List D}, RepL C th F vs ds → RepL C th' F' vs ds
  | _, _, .nil => .nil
  | _, _, .cons h r => .cons (Rep.mono l h) (RepL.mono l r)
end
section
variable {C : Cn} {th th' : List Addr} {F F' H : Hp}
theorem RepL.len : ∀ {vs : List V} {ds : List D}, RepL C th F vs ds → vs.length = ds.length
  | _, _, .nil => rfl
  | _, _, .cons _ r => by rw [List.length_cons, List.length_cons, RepL.len r]
theorem RepL.get : ∀ {vs : List V} {ds : List D} {i : Nat} {d : D}, RepL C th F vs ds → ds[i]? = some d → ∃ v, vs[i]? = some v ∧ Rep C th F v d
  | _, _, _, _, .nil, e => by simp at e
  | _, _, 0, _, .cons r _, e => by simp at e; subst e; exact ⟨_, rfl, r⟩
  | _, _, i + 1, d, .cons _ t, e => by
    obtain ⟨v, h1, h2⟩ := RepL.get (i := i) (d := d) t (by simpa using e)
    exact ⟨v, by simpa using h1, h2⟩
theorem RepL.getv : ∀ {vs : List V} {ds : List D} {i : Nat} {v : V}, RepL C th F vs ds → vs[i]? = some v → ∃ d, ds[i]? = some d ∧ Rep C th F v d
  | _, _, _, _, .nil, e => by simp at e
  | _, _, 0, _, .cons r _, e => by simp at e; subst e; exact ⟨_, rfl, r⟩
  | _, _, i + 1, v, .cons _ t, e => by
    obtain ⟨d, h1, h2⟩ := RepL.getv (i := i) (v := v) t (by simpa using e)
    exact ⟨d, by simpa using h1, h2⟩
theorem RepL.app : ∀ {vs ws : List V} {ds es : List D}, RepL C th F vs ds → RepL C th F ws es → RepL C th F (vs ++ ws) (ds ++ es)
  | _, _, _, _, .nil, h => h
  | _, _, _, _, .cons h r, q => .cons h (r.app q)
theorem RepL.one {v : V} {d : D} (h : Rep C th F v d) : RepL C th F [v] [d] := .cons h .nil
theorem RepL.set : ∀ {vs : List V} {ds : List D} (i : Nat) {v : V} {d : D}, RepL C th F vs ds → Rep C th F v d → RepL C th F (vs.set i v) (ds.set i d)
  | _, _, _, _, _, .nil, _ => .nil
  | _, _, 0, _, _, .cons _ t, r => .cons r t
  | _, _, i + 1, _, _, .cons q t, r => .cons q (t.set i r)
theorem RepL.take : ∀ {vs : List V} {ds : List D} (n : Nat), RepL C th F vs ds → RepL C th F (vs.take n) (ds.take n)
  | _, _, 0, _ => .nil
  | _, _, _ + 1, .nil => .nil
  | _, _, n + 1, .cons r t => .cons r (t.take n)
theorem RepL.drop : ∀ {vs : List V} {ds : List D} (n : Nat), RepL C th F vs ds → RepL C th F (vs.drop n) (ds.drop n)
  | _, _, 0, r => r
  | _, _, _ + 1, .nil => .nil
  | _, _, n + 1, .cons _ t => t.drop n
theorem RepL.iL : ∀ (l : List Int), RepL C th F (l.map V.int) (iL l)
  | [] => .nil
  | _ :: l => .cons (.int _) (RepL.iL l)
theorem RepL.ofI : ∀ {l : List Int} {vs : List V}, RepL C th F vs (PD.iL l) → vs = l.map V.int
  | [], _, .nil => rfl
  | i :: l, _, .cons h r => by
    cases h
    rw [RepL.ofI r]
    rfl
theorem RepL.rep {n : Nat} : ∀ {vs : List V} {ds : List D}, RepL C th F vs ds → RepL C th F (List.replicate n vs).flatten (List.replicate n ds).flatten := fun {vs ds} h => by
  induction n with
  | zero => exact .nil
  | succ n ih =>
    rw [List.replicate_succ, List.flatten_cons, List.replicate_succ, List.flatten_cons]
    exact h.app ih
end

/-- what the law's source of numbers holds -/
def RngOk (ns : List Int) : Prop := 2 ≤ ns.length ∧ ∀ i ∈ ns, 0 ≤ i

def RepF (C : Cn) (th : List Addr) (F : Hp) : List (Str × V) → List (Str × D) → Prop
  | [], [] => True
  | (f, v) :: r, (g, d) :: s => f = g ∧ Rep C th F v d ∧ RepF C th F r s
  | _, _ => False
theorem RepF.mono {C : Cn} {th th' : List Addr} {F F' : Hp} (l : Le th F th' F') : ∀ {fs : List (Str × V)} {gs : List (Str × D)}, RepF C th F fs gs → RepF C th' F' fs gs
  | [], [], h => h
  | (_, _) :: _, (_, _) :: _, ⟨e, h, r⟩ => ⟨e, h.mono l, RepF.mono l r⟩

def CellAt (C : Cn) (th : List Addr) (F H : Hp) (a : Addr) : Cell → Prop
  | .dead => ∃ o, H a = some o
  | .lst xs => F a = none ∧ ∃ vs, H a = some (.lst vs) ∧ RepL C th F vs xs
  | .ins c fs => F a = none ∧ ∃ dx gs, H a = some (.ins c dx gs) ∧ RepF C th F gs fs
  | .rng => F a = none ∧ ∃ ns : List Int, H a = some (.lst (ns.map V.int)) ∧ RngOk ns

structure Hs (C : Cn) (th : List Addr) (F H : Hp) (M : MS) : Prop where
  ex : Ex F H
  len : th.length = M.length
  nd : th.Nodup
  cell : ∀ (k : Nat) (c : Cell) (a : Addr), M[k]? = some c → th[k]? = some a → CellAt C th F H a c

def Sl (C : Cn) (th : List Addr) (F : Hp) (σ : St) (g : En) : Prop :=
  σ.length = g.length ∧ ∀ (i : Nat) (y : D), g[i]? = some (some y) → ∃ v, σ[i]? = some (some v) ∧ Rep C th F v y
structure At (C : Cn) (th : List Addr) (F H : Hp) (σ : St) (g : En) (M : MS) : Prop where
  hs : Hs C th F H M
  sl : Sl C th F σ g

section
variable {C : Cn} {th th' : List Addr} {F F' H H' : Hp} {σ : St} {g : En} {M : MS}
theorem CellAt.there {a : Addr} : ∀ {c : Cell}, CellAt C th F H a c → ∃ o, H a = some o
  | .dead, h => h
  | .lst _, ⟨_, _, h, _⟩ => ⟨_, h⟩
  | .ins _ _, ⟨_, _, _, h, _⟩ => ⟨_, h⟩
  | .rng, ⟨_, _, h, _⟩ => ⟨_, h⟩
theorem Hs.there (h : Hs C th F H M) {k : Nat} {a : Addr} (e : th[k]? = some a) : ∃ o, H a = some o := by
  have hk : k < M.length := by rw [← h.len]; exact (List.getElem?_eq_some_iff.mp e).1
  exact (h.cell k M[k] a (List.getElem?_eq_getElem hk) e).there
theorem Hs.fresh (h : Hs C th F H M) {p : Addr} (n : H p = none) {k : Nat} {a : Addr} (e : th[k]? = some a) : a ≠ p := fun z => by
  obtain ⟨o, q⟩ := h.there e
  rw [z, n] at q
  cases q
theorem Sl.mono (l : Le th F th' F') (h : Sl C th F σ g) : Sl C th' F' σ g := ⟨h.1, fun i y e => let ⟨v, a, b⟩ := h.2 i y e; ⟨v, a, b.mono l⟩⟩
theorem Sl.set (h : Sl C th F σ g) (i : Nat) {v : V} {y : D} (r : Rep C th F v y) : Sl C th F (σ.set i (some v)) (g.set i (some y)) := by
  refine ⟨by rw [List.length_set, List.length_set]; exact h.1, fun j z e => ?_⟩
  by_cases q : i = j
  · subst q
    have hl : i < g.length := by
      have := (List.getElem?_eq_some_iff.mp e).1
      rw [List.length_set] at this
      exact this
    rw [List.getElem?_set_self hl] at e
    cases e
    exact ⟨v, List.getElem?_set_self (by rw [h.1]; exact hl), r⟩
  · rw [List.getElem?_set_ne q] at e ⊢
    exact h.2 j z e
/-- a slot is forgotten -/
theorem Sl.forget (h : Sl C th F σ g) (i : Nat) (x : Option V) : Sl C th F (σ.set i x) (g.set i none) := by
  refine ⟨by rw [List.length_set, List.length_set]; exact h.1, fun j z e => ?_⟩
  by_cases q : i = j
  · subst q
    have hl : i < g.length := by
      have := (List.getElem?_eq_some_iff.mp e).1
      rw [List.length_set] at this
      exact this
    rw [List.getElem?_set_self hl] at e
    cases e
  · rw [List.getElem?_set_ne q] at e ⊢
    exact h.2 j z e
/-- the heap grows, nothing that is told changes -/
theorem CellAt.grow (e : Ex H H') {a : Addr} : ∀ {c : Cell}, CellAt C th F H a c → CellAt C th F H' a c
  | .dead, ⟨o, h⟩ => ⟨o, e _ _ h⟩
  | .lst _, ⟨n, vs, h, r⟩ => ⟨n, vs, e _ _ h, r⟩
  | .ins _ _, ⟨n, dx, gs, h, r⟩ => ⟨n, dx, gs, e _ _ h, r⟩
  | .rng, ⟨n, ns, h, r⟩ => ⟨n, ns, e _ _ h, r⟩
theorem CellAt.mono (l : Le th F th' F') {a : Addr} (hn : F a = none → F' a = none) : ∀ {c : Cell}, CellAt C th F H a c → CellAt C th' F' H a c
  | .dead, h => h
  | .lst _, ⟨n, vs, h, r⟩ => ⟨hn n, vs, h, r.mono l⟩
  | .ins _ _, ⟨n, dx, gs, h, r⟩ => ⟨hn n, dx, gs, h, r.mono l⟩
  | .rng, ⟨n, ns, h, r⟩ => ⟨hn n, ns, h, r⟩
theorem Hs.grow (h : Hs C th F H M) (e : Ex H H') : Hs C th F H' M := ⟨h.ex.tr e, h.len, h.nd, fun k c a q1 q2 => (h.cell k c a q1 q2).grow e⟩
/-- a new immutable object -/
theorem Hs.new (h : Hs C th F H M) {p : Addr} {o : HO} (n : H p = none) : Hs C th (upd F p o) (upd H p o) M :=
  ⟨h.ex.up, h.len, h.nd, fun k c a q1 q2 => ((h.cell k c a q1 q2).grow (Ex.nw n)).mono (Le.nw (h.ex.fr n)) fun z => by rw [upd_ne (h.fresh n q2)]; exact z⟩
/-- an object, tracked in H already, is told of: no cell's -/
theorem Hs.tell (h : Hs C th F H M) {p : Addr} {o : HO} (hp : H p = some o) (hn : F p = none) (ne : ∀ (k : Nat) (a : Addr), th[k]? = some a → a ≠ p) : Hs C th (upd F p o) H M := by
  refine ⟨fun a u e => ?_, h.len, h.nd, fun k c a q1 q2 => (h.cell k c a q1 q2).mono (Le.nw hn) fun z => by rw [upd_ne (ne k a q2)]; exact z⟩
  by_cases q : a = p
  · subst q; rw [upd_same] at e; cases e; exact hp
  · rw [upd_ne q] at e; exact h.ex a u e
/-- a new cell -/
theorem Hs.push (h : Hs C th F H M) {p : Addr} {o : HO} {c : Cell} (n : H p = none) (hc : CellAt C (th ++ [p]) F (upd H p o) p c) : Hs C (th ++ [p]) F (upd H p o) (M ++ [c]) := by
  have l : Le th F (th ++ [p]) F := ⟨Ex.rfl, fun k a e => by rw [List.getElem?_append_left (List.getElem?_eq_some_iff.mp e).1]; exact e⟩
  refine ⟨h.ex.tr (Ex.nw n), by rw [List.length_append, List.length_append, h.len]; rfl, ?_, fun k c' a q1 q2 => ?_⟩
  · refine List.nodup_append.mpr ⟨h.nd, by simp, fun a ha b hb => ?_⟩
    rw [List.mem_singleton] at hb
    subst hb
    obtain ⟨k, hk⟩ := List.mem_iff_getElem?.mp ha
    exact h.fresh n hk
  · by_cases hk : k < M.length
    · rw [List.getElem?_append_left hk] at q1
      rw [List.getElem?_append_left (by rw [h.len]; exact hk)] at q2
      exact ((h.cell k c' a q1 q2).grow (Ex.nw n)).mono l fun z => z
    · have hk2 : k = M.length := by
        have := (List.getElem?_eq_some_iff.mp q1).1
        rw [List.length_append, List.length_singleton] at this
        omega
      subst hk2
      rw [List.getElem?_append_right (Nat.le_refl _), Nat.sub_self] at q1
      rw [List.getElem?_append_right (by rw [h.len]; exact Nat.le_refl _), h.len, Nat.sub_self] at q2
      cases q1
      cases q2
      exact hc
theorem Le.push {p : Addr} : Le th F (th ++ [p]) F := ⟨Ex.rfl, fun k a e => by rw [List.getElem?_append_left (List.getElem?_eq_some_iff.mp e).1]; exact e⟩
theorem nd_inj {l : List Addr} (h : l.Nodup) {i j : Nat} (hi : i < l.length) (hj : j < l.length) (e : l[i] = l[j]) : i = j := by
  have p := List.pairwise_iff_getElem.mp h
  rcases Nat.lt_trichotomy i j with q | q | q
  · exact absurd e (p i j hi hj q)
  · exact q
  · exact absurd e.symm (p j i hj hi q)
/-- a cell's content changes -/
theorem Hs.put (h : Hs C th F H M) {k : Nat} {p : Addr} {o : HO} {c : Cell} (q : th[k]? = some p) (n : F p = none) (hc : CellAt C th F (upd H p o) p c) : Hs C th F (upd H p o) (M.set k c) := by
  refine ⟨h.ex.mt n, by rw [List.length_set]; exact h.len, h.nd, fun j c' a q1 q2 => ?_⟩
  have hk : k < th.length := (List.getElem?_eq_some_iff.mp q).1
  by_cases e : k = j
  · subst e
    rw [q] at q2
    cases q2
    rw [List.getElem?_set_self (by rw [← h.len]; exact hk)] at q1
    cases q1
    exact hc
  · rw [List.getElem?_set_ne e] at q1
    have ne : a ≠ p := fun z => by
      subst z
      have hj : j < th.length := (List.getElem?_eq_some_iff.mp q2).1
      have e1 := (List.getElem?_eq_some_iff.mp q).2
      have e2 := (List.getElem?_eq_some_iff.mp q2).2
      exact e (nd_inj h.nd _ _ (e1.trans e2.symm))
    have hold := h.cell j c' a q1 q2
    cases c' with
    | dead => obtain ⟨u, z⟩ := hold; exact ⟨u, by rw [upd_ne ne]; exact z⟩
    | lst xs => obtain ⟨z, vs, z1, z2⟩ := hold; exact ⟨z, vs, by rw [upd_ne ne]; exact z1, z2⟩
    | ins c fs => obtain ⟨z, dx, gs, z1, z2⟩ := hold; exact ⟨z, dx, gs, by rw [upd_ne ne]; exact z1, z2⟩
    | rng => obtain ⟨z, ns, z1, z2⟩ := hold; exact ⟨z, ns, by rw [upd_ne ne]; exact z1, z2⟩
/-- a cell is frozen: its object is told of from now on -/
theorem Hs.freeze (h : Hs C th F H M) {k : Nat} {p : Addr} {o : HO} (q : th[k]? = some p) (n : F p = none) (hp : H p = some o) : Hs C th (upd F p o) H (M.set k .dead) := by
  refine ⟨fun a u e => ?_, by rw [List.length_set]; exact h.len, h.nd, fun j c' a q1 q2 => ?_⟩
  · by_cases z : a = p
    · subst z; rw [upd_same] at e; cases e; exact hp
    · rw [upd_ne z] at e; exact h.ex a u e
  have hk : k < th.length := (List.getElem?_eq_some_iff.mp q).1
  by_cases e : k = j
  · subst e
    rw [q] at q2
    cases q2
    rw [List.getElem?_set_self (by rw [← h.len]; exact hk)] at q1
    cases q1
    exact ⟨_, hp⟩
  · rw [List.getElem?_set_ne e] at q1
    have ne : a ≠ p := fun z => by
      subst z
      have e1 := (List.getElem?_eq_some_iff.mp q).2
      have e2 := (List.getElem?_eq_some_iff.mp q2).2
      exact e (nd_inj h.nd _ _ (e1.trans e2.symm))
    exact (h.cell j c' a q1 q2).mono (Le.nw n) fun z => by rw [upd_ne ne]; exact z
/-- the last cells are forgotten -/
theorem Hs.drop {M L : MS} (h : Hs C th F H (M ++ L)) : ∃ th0 t1, th = th0 ++ t1 ∧ th0.length = M.length := by
  refine ⟨th.take M.length, th.drop M.length, (List.take_append_drop _ _).symm, ?_⟩
  rw [List.length_take, h.len, List.length_append]
  omega
end

/-- no cell is named -/
inductive Cln : D → Prop
  | non : Cln .non
  | bl (b : Bool) : Cln (.bl b)
  | int (i : Int) : Cln (.int i)
  | str (x : Str) : Cln (.str x)
  | lst {ds : List D} : (∀ d ∈ ds, Cln d) → Cln (.lst ds)
  | tup {ds : List D} : (∀ d ∈ ds, Cln d) → Cln (.tup ds)
  | gm (n s : Int) (ws : List Int) : Cln (.gm n s ws)
  | dct : Cln .dct
  | scr (l : List Int) : Cln (.scr l)
  | ty (n : String) : Cln (.ty n)
  | gcl : Cln .gcl
  | exc (c f : Str) {y : D} : Cln y → Cln (.exc c f y)
  | exn (c : Str) : Cln (.exn c)
  | ecl (c : Str) : Cln (.ecl c)
theorem Cln.iL {l : List Int} : ∀ d ∈ PD.iL l, Cln d := fun d h => by
  obtain ⟨i, _, rfl⟩ := List.mem_map.mp h
  exact .int i
mutual
theorem Rep.cut {C : Cn} {th th' : List Addr} {F : Hp} : ∀ {v : V} {d : D}, Cln d → Rep C th F v d → Rep C th' F v d
  | _, _, _, .non => .non
  | _, _, _, .bl b => .bl b
  | _, _, _, .int i => .int i
  | _, _, _, .str x => .str x
  | _, _, c, .lst h r => .lst h (RepL.cut (by cases c with | lst q => exact q) r)
  | _, _, c, .tup h r => .tup h (RepL.cut (by cases c with | tup q => exact q) r)
  | _, _, _, .gm h r => .gm h r
  | _, _, _, .scr h => .scr h
  | _, _, _, .ty n => .ty n
  | _, _, _, .gcl => .gcl
  | _, _, _, .dct h => .dct h
  | _, _, c, .exc h g r => .exc h g (Rep.cut (by cases c with | exc _ _ q => exact q) r)
  | _, _, _, .exn h => .exn h
  | _, _, _, .ecl n => .ecl n
  | _, _, c, .ptr _ => by cases c
theorem RepL.cut {C : Cn} {th th' : List Addr} {F : Hp} : ∀ {vs : List V} {ds : List D}, (∀ d ∈ ds, Cln d) → RepL C th F vs ds → RepL C th' F vs ds
  | _, _, _, .nil => .nil
  | _, _, c, .cons h r => .cons (Rep.cut (c _ List.mem_cons_self) h) (RepL.cut (fun d q => c d (List.mem_cons_of_mem _ q)) r)
end
end PD

/-! PD: the lifted readings. -/
namespace PD
open PySem PySem.Spec PyProof.Rows L2

/-- an error: its class's name, its field -/
structure Exn where
  cls : Str
  fld : Option (Str × D)
abbrev EK := Exn → MS → Prop
abbrev Kd := D → MS → Prop
abbrev DE := En → MS → EK → (D → MS → Prop) → Prop
abbrev DT := En → MS → EK → (Bool → MS → Prop) → Prop
abbrev DA := En → MS → EK → (List D → MS → Prop) → Prop
abbrev DO := En → MS → EK → (Option Int → MS → Prop) → Prop

def ExcAt (C : Cn) (th : List Addr) (F H : Hp) (e : Exn) (cls : Value) (dd : Option Addr) : Prop :=
  cls = .ref (C.cl e.cls) ∧ match e.fld with
    | none => dd = none
    | some (f, y) => ∃ a v, dd = some a ∧ H a = some (.xd [(f, v)]) ∧ Rep C th F v y

section
variable {V' α : Type} (C : Cn) (W : WX) (rel : List Addr → Hp → V' → α → Prop)
structure Pk (σ : L2.St) (Q : V' → Hp → Prop) (th : List Addr) (F H : Hp) (g : En) (M : MS) (X : EK) (P : α → MS → Prop) : Prop where
  at_ : At C th F H σ g M
  ok : ∀ (y : α) (M' : MS) (v : V') (th' : List Addr) (F' H' : Hp), P y M' → Hs C th' F' H' M' → Le th F th' F' → rel th' F' v y → Q v H'
  ex : ∀ (e : Exn) (M' : MS) (th' : List Addr) (F' H' : Hp) (cls : Value) (dd : Option Addr), X e M' → Hs C th' F' H' M' → Le th F th' F' → ExcAt C th' F' H' e cls dd → W cls dd σ H'
def Up (d : En → MS → EK → (α → MS → Prop) → Prop) : L2.St → Hp → (V' → Hp → Prop) → Prop := fun σ H Q =>
  ∃ th F g M X P, Pk C W rel σ Q th F H g M X P ∧ d g M X P
end
def rD (C : Cn) : List Addr → Hp → V → D → Prop := fun th F v y => Rep C th F v y
def rB : List Addr → Hp → Bool → Bool → Prop := fun _ _ v y => v = y
def rL (C : Cn) : List Addr → Hp → List V → List D → Prop := fun th F v y => RepL C th F v y
def rO : List Addr → Hp → Option Int → Option Int → Prop := fun _ _ v y => v = y
abbrev upE (C : Cn) (W : WX) (d : DE) : TE := Up C W (rD C) d
abbrev upT (C : Cn) (W : WX) (d : DT) : TT := Up C W rB d
abbrev upA (C : Cn) (W : WX) (d : DA) : TA := Up C W (rL C) d
abbrev upO (C : Cn) (W : WX) (d : DO) : TO := Up C W rO d

section
variable {V' V1 α β : Type} {C : Cn} {W : WX} {rel : List Addr → Hp → V' → α → Prop} {rel1 : List Addr → Hp → V1 → β → Prop} {σ : L2.St} {Q : V' → Hp → Prop} {th th' : List Addr} {F F' H H' : Hp} {g : En} {M M' : MS} {X : EK} {P : α → MS → Prop}
theorem Pk.step (p : Pk C W rel σ Q th F H g M X P) (h : Hs C th' F' H' M') (l : Le th F th' F') : Pk C W rel σ Q th' F' H' g M' X P :=
  ⟨⟨h, p.at_.sl.mono l⟩, fun y M2 v t2 F2 H2 q h2 l2 r => p.ok y M2 v t2 F2 H2 q h2 (l.tr l2) r, fun e M2 t2 F2 H2 c d q h2 l2 x => p.ex e M2 t2 F2 H2 c d q h2 (l.tr l2) x⟩
theorem Pk.bind (p : Pk C W rel σ Q th F H g M X P) {da : En → MS → EK → (β → MS → Prop) → Prop} {f : β → MS → Prop} {R : V1 → Hp → Prop} (h : da g M X f)
    (s : ∀ (x : β) (v : V1) (th' : List Addr) (F' H' : Hp) (M' : MS), f x M' → rel1 th' F' v x → Le th F th' F' → Pk C W rel σ Q th' F' H' g M' X P → R v H') : Up C W rel1 da σ H R :=
  ⟨th, F, g, M, X, f, ⟨p.at_, fun y M' v th' F' H' q h' l r => s y v th' F' H' M' q r l (p.step h' l), p.ex⟩, h⟩
theorem Pk.up (p : Pk C W rel σ Q th F H g M X P) {d : En → MS → EK → (α → MS → Prop) → Prop} (h : d g M X P) : Up C W rel d σ H Q := ⟨th, F, g, M, X, P, p, h⟩
/-- the end: the heap as it is -/
theorem Pk.fin (p : Pk C W rel σ Q th F H g M X P) {y : α} {v : V'} (q : P y M) (r : rel th F v y) : Q v H := p.ok y M v th F H q p.at_.hs Le.rfl r
/-- the end: a new immutable object -/
theorem Pk.new (p : Pk C W rel σ Q th F H g M X P) {y : α} {v : V'} {a : Addr} {o : HO} (n : H a = none) (q : P y M) (r : Le th F th (upd F a o) → rel th (upd F a o) v y) : Q v (upd H a o) :=
  p.ok y M v th (upd F a o) (upd H a o) q (p.at_.hs.new n) (Le.nw (p.at_.hs.ex.fr n)) (r (Le.nw (p.at_.hs.ex.fr n)))
end
theorem pe_imp {X : Cx} {e : Expr} {t t' : TE} (h : PE X e t) (k : ∀ σ H Q, t' σ H Q → t σ H Q) : PE X e t' := ⟨fun pins s σ H Q I q => h.run pins s σ H Q I (k σ H Q q)⟩
theorem pt_imp {X : Cx} {e : Expr} {t t' : TT} (h : PT X e t) (k : ∀ σ H Q, t' σ H Q → t σ H Q) : PT X e t' := ⟨fun pins s σ H Q I q => h.run pins s σ H Q I (k σ H Q q)⟩
theorem pw_imp {X : Cx} {e : Expr} {t t' : TT} (h : PW X e t) (k : ∀ σ H Q, t' σ H Q → t σ H Q) : PW X e t' := ⟨fun wh pins s σ H Q I q => h.run wh pins s σ H Q I (k σ H Q q)⟩
theorem pa_imp {X : Cx} {e : List Expr} {t t' : TA} (h : PA X e t) (k : ∀ σ H Q, t' σ H Q → t σ H Q) : PA X e t' := ⟨fun pos pins s σ H Q I q => h.run pos pins s σ H Q I (k σ H Q q)⟩
theorem po_imp {X : Cx} {e : Option Expr} {t t' : TO} (h : PO X e t) (k : ∀ σ H Q, t' σ H Q → t σ H Q) : PO X e t' := ⟨fun pins s σ H Q I q => h.run pins s σ H Q I (k σ H Q q)⟩
theorem ps_imp {X : Cx} {e : Stmt} {t t' : TS} (h : PS X e t) (k : ∀ D σ H, t' D σ H → t D σ H) : PS X e t' := ⟨fun pins s σ H D I q => h.run pins s σ H D I (k D σ H q)⟩
theorem pss_imp {X : Cx} {e : List Stmt} {t t' : TS} (h : PSs X e t) (k : ∀ D σ H, t' D σ H → t D σ H) : PSs X e t' := ⟨fun pins s σ H D I q => h.run pins s σ H D I (k D σ H q)⟩

/-! ### expressions -/
def dV (i : Nat) : DE := fun g M _ k => ∃ y, g[i]? = some (some y) ∧ k y M
def dC (y : D) : DE := fun _ M _ k => k y M
def dI (i : Int) : DE := dC (.int i)
def dOp (r : D → D → MS → (D → Prop) → Prop) (da db : DE) : DE := fun g M X k => da g M X fun x M1 => db g M1 X fun y M2 => r x y M2 fun z => k z M2
def dUn (r : D → MS → (D → Prop) → Prop) (da : DE) : DE := fun g M X k => da g M X fun x M1 => r x M1 fun z => k z M1
def dCh (r r' : D → D → MS → (D → Prop) → Prop) (da db dc : DE) : DE := fun g M X k => da g M X fun x M1 => db g M1 X fun y M2 => r x y M2 fun z =>
  ∃ b, z = .bl b ∧ if b = true then dc g M2 X fun w M3 => r' y w M3 fun u => k u M3 else k (.bl false) M2
def dB (d : DE) : DT := fun g M X k => d g M X fun x M1 => ∃ b, x = .bl b ∧ k b M1
def dAnd (a b : DT) : DT := fun g M X k => a g M X fun c M1 => if c = true then b g M1 X k else k false M1
def dOr (a b : DT) : DT := fun g M X k => a g M X fun c M1 => if c = true then k true M1 else b g M1 X k
def dNot (a : DT) : DT := fun g M X k => a g M X fun c M1 => k (!c) M1
def dAndV (a b : DE) : DE := fun g M X k => a g M X fun x M1 => ∃ c, x = .bl c ∧ if c = true then b g M1 X k else k (.bl false) M1
def dOrV (a b : DE) : DE := fun g M X k => a g M X fun x M1 => ∃ c, x = .bl c ∧ if c = true then k (.bl true) M1 else b g M1 X k
def dNotV (a : DE) : DE := fun g M X k => a g M X fun x M1 => ∃ c, x = .bl c ∧ k (.bl (!c)) M1
def dIf (t : DT) (a b : DE) : DE := fun g M X k => t g M X fun c M1 => if c = true then a g M1 X k else b g M1 X k
def dNil : DA := fun _ M _ k => k [] M
def dCons (a : DE) (r : DA) : DA := fun g M X k => a g M X fun x M1 => r g M1 X fun xs M2 => k (x :: xs) M2
/-- the items of a list or tuple: a list cell's too -/
def seqOf (x : D) (M : MS) : Option (List D) := match x with
  | .lst xs => some xs
  | .tup xs => some xs
  | .ptr j => match M[j]? with
    | some (.lst xs) => some xs
    | _ => none
  | _ => none
def lstOf (x : D) (M : MS) : Option (List D) := match x with
  | .lst xs => some xs
  | .ptr j => match M[j]? with
    | some (.lst xs) => some xs
    | _ => none
  | _ => none
def dStar (a : DE) (r : DA) : DA := fun g M X k => a g M X fun x M1 => ∃ xs, seqOf x M1 = some xs ∧ r g M1 X fun ys M2 => k (xs ++ ys) M2
def dTup (a : DA) : DE := fun g M X k => a g M X fun xs M1 => xs.length ≤ sizeLine ∧ k (.tup xs) M1
def dLst (a : DA) : DE := fun g M X k => a g M X fun xs M1 => xs.length ≤ sizeLine ∧ k (.lst xs) M1
def dCB (r : List D → MS → (D → Prop) → Prop) (a : DA) : DE := fun g M X k => a g M X fun xs M1 => r xs M1 fun z => k z M1
def dNoPart : DO := fun _ M _ k => k none M
def dPart (a : DE) : DO := fun g M X k => a g M X fun x M1 => ∃ i, x = .int i ∧ k (some i) M1
def dSl (r : D → Option Int → Option Int → MS → (D → Prop) → Prop) (a : DE) (lo hi : DO) : DE := fun g M X k => a g M X fun x M1 => lo g M1 X fun l M2 => hi g M2 X fun u M3 => r x l u M3 fun z => k z M3

/-- a value's operation and the data's -/
def Lk2 (C : Cn) (rv : R2) (rd : D → D → MS → (D → Prop) → Prop) : Prop :=
  ∀ (x y : D) (M : MS) (k : D → Prop) (v w : V) (th : List Addr) (F H : Hp) (Q : VK), Hs C th F H M → Rep C th F v x → Rep C th F w y → rd x y M k →
    (∀ (z : D) (u : V) (F' H' : Hp), k z → Hs C th F' H' M → Le th F th F' → Rep C th F' u z → Q u H') → rv v w H Q
def Lk1 (C : Cn) (rv : V → Hp → VK → Prop) (rd : D → MS → (D → Prop) → Prop) : Prop :=
  ∀ (x : D) (M : MS) (k : D → Prop) (v : V) (th : List Addr) (F H : Hp) (Q : VK), Hs C th F H M → Rep C th F v x → rd x M k →
    (∀ (z : D) (u : V) (F' H' : Hp), k z → Hs C th F' H' M → Le th F th F' → Rep C th F' u z → Q u H') → rv v H Q
def LkA (C : Cn) (rv : List V → Hp → VK → Prop) (rd : List D → MS → (D → Prop) → Prop) : Prop :=
  ∀ (xs : List D) (M : MS) (k : D → Prop) (vs : List V) (th : List Addr) (F H : Hp) (Q : VK), Hs C th F H M → RepL C th F vs xs → rd xs M k →
    (∀ (z : D) (u : V) (F' H' : Hp), k z → Hs C th F' H' M → Le th F th F' → Rep C th F' u z → Q u H') → rv vs H Q
def LkS (C : Cn) (rv : V → Option Int → Option Int → Hp → VK → Prop) (rd : D → Option Int → Option Int → MS → (D → Prop) → Prop) : Prop :=
  ∀ (x : D) (lo hi : Option Int) (M : MS) (k : D → Prop) (v : V) (th : List Addr) (F H : Hp) (Q : VK), Hs C th F H M → Rep C th F v x → rd x lo hi M k →
    (∀ (z : D) (u : V) (F' H' : Hp), k z → Hs C th F' H' M → Le th F th F' → Rep C th F' u z → Q u H') → rv v lo hi H Q
section
variable {C : Cn} {W : WX} {σ : L2.St} {th : List Addr} {F H : Hp} {g : En} {M : MS} {X : EK} {P : D → MS → Prop} {Q : VK}
/-- behind an operation -/
theorem Pk.opk (p : Pk C W (rD C) σ Q th F H g M X P) : ∀ (z : D) (u : V) (F' H' : Hp), P z M → Hs C th F' H' M → Le th F th F' → Rep C th F' u z → Q u H' :=
  fun z u F' H' q h l r => p.ok z M u th F' H' q h l r
end

section
variable {X : Cx} {C : Cn} {W : WX} {a b c : Expr} {da db dc : DE} {ta tb : DT} {pos : Pos} {es rest : List Expr} {ea : DA}
theorem de_v {x : Str} (i : Nat) (hN : X.N[i]? = some x := by rfl) (hv : Vis X.env.scope x := by first | exact Or.inl rfl | exact Or.inr (Or.inl rfl) | exact Or.inr (Or.inr rfl)) (hd : (x == ("__debug__" : Str)) = false := by decide)
    (hcd : (x == ("__classdict__" : Str)) = false := by decide) : PE X (.Name x pos) (upE C W (dV i)) :=
  pe_imp (pe_var hN hv hd hcd) fun σ H Q h => by
    obtain ⟨th, F, g, M, X', P, p, y, e, q⟩ := h
    obtain ⟨v, e', r⟩ := p.at_.sl.2 i y e
    exact ⟨v, e', p.fin q r⟩
theorem de_c {e : Expr} {v : V} {y : D} (h : PE X e (tC v)) (r : ∀ th F, Rep C th F v y) : PE X e (upE C W (dC y)) :=
  pe_imp h fun σ H Q q => by
    obtain ⟨th, F, g, M, X', P, p, q⟩ := q
    exact p.fin q (r th F)
theorem de_int {i : Int} {j : Nat} : PE X (.Constant (.int i) j pos) (upE C W (dC (.int i))) := de_c pe_int fun _ _ => .int i
theorem de_bl {i : Bool} {j : Nat} : PE X (.Constant (.bool i) j pos) (upE C W (dC (.bl i))) := de_c pe_bl fun _ _ => .bl i
theorem de_non {j : Nat} : PE X (.Constant .none j pos) (upE C W (dC .non)) := de_c pe_non fun _ _ => .non
theorem de_str {x : Str} {j : Nat} : PE X (.Constant (.str x) j pos) (upE C W (dC (.str x))) := de_c pe_str fun _ _ => .str x
theorem de_globI {x : Str} {i : Int} {t : Tok} (hg : Gl X x) (hm : X.mg x = some (.int i t)) (hd : (x == ("__debug__" : Str)) = false := by decide) : PE X (.Name x pos) (upE C W (dC (.int i))) :=
  de_c (pe_glob hg hm (v := .int i) ⟨t, rfl⟩ hd) fun _ _ => .int i
theorem de_globS {x : Str} {i : Str} {t : Tok} (hg : Gl X x) (hm : X.mg x = some (.str i t)) (hd : (x == ("__debug__" : Str)) = false := by decide) : PE X (.Name x pos) (upE C W (dC (.str i))) :=
  de_c (pe_glob hg hm (v := .str i) ⟨t, rfl⟩ hd) fun _ _ => .str i
theorem op_up {rv : R2} {rd : D → D → MS → (D → Prop) → Prop} (l : Lk2 C rv rd) : ∀ σ H Q, upE C W (dOp rd da db) σ H Q → tOp rv (upE C W da) (upE C W db) σ H Q := fun σ H Q h => by
  obtain ⟨th, F, g, M, X, P, p, h⟩ := h
  refine p.bind h fun x v t1 F1 H1 M1 h1 rx l1 p1 => p1.bind h1 fun y w t2 F2 H2 M2 h2 ry l2 p2 => ?_
  exact l x y M2 _ v w t2 F2 H2 Q p2.at_.hs (rx.mono l2) ry h2 p2.opk
theorem de_op {op : Operator} {rv : R2} {rd : D → D → MS → (D → Prop) → Prop} (ho : OpR X (binaryOp op) rv) (l : Lk2 C rv rd) (ha : PE X a (upE C W da)) (hb : PE X b (upE C W db)) : PE X (.BinOp a op b pos) (upE C W (dOp rd da db)) :=
  pe_imp (pe_op ho ha hb) (op_up l)
theorem de_cmp {op : CmpOp} {rv : R2} {rd : D → D → MS → (D → Prop) → Prop} (ho : OpR X (compareOp op) rv) (l : Lk2 C rv rd) (ha : PE X a (upE C W da)) (hb : PE X b (upE C W db)) (hm : behindInMarks op b = false := by exact nomark _) : PE X (.Compare a [op] [b] pos) (upE C W (dOp rd da db)) :=
  pe_imp (pe_cmpR ho ha hb hm) (op_up l)
theorem dt_of {e : Expr} {t : TE} {d : DE} (h : PT X e (tTest t)) (k : ∀ σ H Q, upE C W d σ H Q → t σ H Q) : PT X e (upT C W (dB d)) := pt_imp h fun σ H Q h => by
  obtain ⟨th, F, g, M, X, P, p, h⟩ := h
  refine k σ H _ (p.bind h fun x v t1 F1 H1 M1 h1 rx l1 p1 => ?_)
  obtain ⟨b, e, q⟩ := h1
  subst e
  cases rx
  exact ⟨b, rfl, p1.fin q rfl⟩
theorem dt_cmp {op : CmpOp} {rv : R2} {rd : D → D → MS → (D → Prop) → Prop} (ho : OpR X (compareOp op) rv) (l : Lk2 C rv rd) (ha : PE X a (upE C W da)) (hb : PE X b (upE C W db)) (hm : behindInMarks op b = false := by exact nomark _) : PT X (.Compare a [op] [b] pos) (upT C W (dB (dOp rd da db))) :=
  dt_of (pt_cmpR ho ha hb hm) (op_up l)
theorem ch_up {rv rv' : R2} {rd rd' : D → D → MS → (D → Prop) → Prop} (l : Lk2 C rv rd) (l' : Lk2 C rv' rd') : ∀ σ H Q, upE C W (dCh rd rd' da db dc) σ H Q → tChain rv rv' (upE C W da) (upE C W db) (upE C W dc) σ H Q := fun σ H Q h => by
  obtain ⟨th, F, g, M, X, P, p, h⟩ := h
  refine p.bind h fun x v t1 F1 H1 M1 h1 rx l1 p1 => p1.bind h1 fun y w t2 F2 H2 M2 h2 ry l2 p2 => ?_
  refine l x y M2 _ v w t2 F2 H2 _ p2.at_.hs (rx.mono l2) ry h2 fun z u F3 H3 h3 s3 l3 r3 => ?_
  obtain ⟨b, e, q⟩ := h3
  subst e
  cases r3
  refine ⟨b, rfl, ?_⟩
  have p3 := p2.step s3 l3
  cases b with
  | false => exact p3.fin q (.bl false)
  | true => exact p3.bind q fun z' w' t4 F4 H4 M4 h4 rz l4 p4 => l' y z' M4 _ w w' t4 F4 H4 Q p4.at_.hs (ry.mono (l3.tr l4)) rz h4 p4.opk
theorem de_ch {op op' : CmpOp} {rv rv' : R2} {rd rd' : D → D → MS → (D → Prop) → Prop} (ho : OpR X (compareOp op) rv) (ho' : OpR X (compareOp op') rv') (l : Lk2 C rv rd) (l' : Lk2 C rv' rd') (ha : PE X a (upE C W da)) (hb : PE X b (upE C W db)) (hc : PE X c (upE C W dc))
    (hm : lastMarks [op, op'] [b, c] = false := by with_unfolding_all rfl) : PE X (.Compare a [op, op'] [b, c] pos) (upE C W (dCh rd rd' da db dc)) := pe_imp (pe_chain ho ho' ha hb hc hm) (ch_up l l')
theorem dt_ch {op op' : CmpOp} {rv rv' : R2} {rd rd' : D → D → MS → (D → Prop) → Prop} (ho : OpR X (compareOp op) rv) (ho' : OpR X (compareOp op') rv') (l : Lk2 C rv rd) (l' : Lk2 C rv' rd') (ha : PE X a (upE C W da)) (hb : PE X b (upE C W db)) (hc : PE X c (upE C W dc))
    (hm : lastMarks [op, op'] [b, c] = false := by with_unfolding_all rfl) : PT X (.Compare a [op, op'] [b, c] pos) (upT C W (dB (dCh rd rd' da db dc))) := dt_of (pt_chain ho ho' ha hb hc hm) (ch_up l l')
/-- a test by its value: a call, a name, a subscript .. -/
theorem dt_val {e : Expr} (h : PE X e (upE C W da)) (he : ∀ whole, isTrue e X.env whole = (do let v ← whole; standAt e.pos; holding [v] (truthy v)) := by intro _; rfl) : PT X e (upT C W (dB da)) :=
  dt_of (t := upE C W da) (pt_imp (pt_val h he) fun _ _ _ h => h) fun _ _ _ h => h
theorem de_un {op : UnaryOp} {rv : V → Hp → VK → Prop} {rd : D → MS → (D → Prop) → Prop} (ho : UnR X (unaryOp op) rv) (l : Lk1 C rv rd) (ha : PE X a (upE C W da)) : PE X (.UnaryOp op a pos) (upE C W (dUn rd da)) :=
  pe_imp (pe_un ho ha) fun σ H Q h => by
    obtain ⟨th, F, g, M, X, P, p, h⟩ := h
    exact p.bind h fun x v t1 F1 H1 M1 h1 rx l1 p1 => l x M1 _ v t1 F1 H1 Q p1.at_.hs rx h1 p1.opk
theorem dt_not (h : PT X a (upT C W ta)) : PT X (.UnaryOp .Not a pos) (upT C W (dNot ta)) := pt_imp (pt_not h) fun σ H Q h => by
  obtain ⟨th, F, g, M, X, P, p, h⟩ := h
  refine p.bind h fun x v t1 F1 H1 M1 h1 rx l1 p1 => ?_
  cases rx
  exact p1.fin h1 rfl
theorem dw_and1 (h : PT X a (upT C W ta)) : PW X (.BoolOp .And [a] pos) (upT C W ta) := pw_and1 h
theorem dw_or1 (h : PT X a (upT C W ta)) : PW X (.BoolOp .Or [a] pos) (upT C W ta) := pw_or1 h
theorem dw_and (ha : PT X a (upT C W ta)) (hb : PW X (.BoolOp .And (b :: rest) pos) (upT C W tb)) : PW X (.BoolOp .And (a :: b :: rest) pos) (upT C W (dAnd ta tb)) := pw_imp (pw_and ha hb) fun σ H Q h => by
  obtain ⟨th, F, g, M, X, P, p, h⟩ := h
  refine p.bind h fun x v t1 F1 H1 M1 h1 rx l1 p1 => ?_
  cases rx
  cases x with
  | true => exact p1.up h1
  | false => exact p1.fin h1 rfl
theorem dw_or (ha : PT X a (upT C W ta)) (hb : PW X (.BoolOp .Or (b :: rest) pos) (upT C W tb)) : PW X (.BoolOp .Or (a :: b :: rest) pos) (upT C W (dOr ta tb)) := pw_imp (pw_or ha hb) fun σ H Q h => by
  obtain ⟨th, F, g, M, X, P, p, h⟩ := h
  refine p.bind h fun x v t1 F1 H1 M1 h1 rx l1 p1 => ?_
  cases rx
  cases x with
  | true => exact p1.fin h1 rfl
  | false => exact p1.up h1
theorem de_and (ha : PE X a (upE C W da)) (hb : PE X (.BoolOp .And (b :: rest) pos) (upE C W db)) : PE X (.BoolOp .And (a :: b :: rest) pos) (upE C W (dAndV da db)) := pe_imp (pe_and ha hb) fun σ H Q h => by
  obtain ⟨th, F, g, M, X, P, p, h⟩ := h
  refine p.bind h fun x v t1 F1 H1 M1 h1 rx l1 p1 => ?_
  obtain ⟨c, e, q⟩ := h1
  subst e
  cases rx
  refine ⟨c, rfl, ?_⟩
  cases c with
  | true => exact p1.up q
  | false => exact p1.fin q (.bl false)
theorem de_or (ha : PE X a (upE C W da)) (hb : PE X (.BoolOp .Or (b :: rest) pos) (upE C W db)) : PE X (.BoolOp .Or (a :: b :: rest) pos) (upE C W (dOrV da db)) := pe_imp (pe_or ha hb) fun σ H Q h => by
  obtain ⟨th, F, g, M, X, P, p, h⟩ := h
  refine p.bind h fun x v t1 F1 H1 M1 h1 rx l1 p1 => ?_
  obtain ⟨c, e, q⟩ := h1
  subst e
  cases rx
  refine ⟨c, rfl, ?_⟩
  cases c with
  | true => exact p1.fin q (.bl true)
  | false => exact p1.up q
theorem de_one {op : BoolOp} (h : PE X a (upE C W da)) : PE X (.BoolOp op [a] pos) (upE C W da) := pe_one h
theorem de_not (ha : PE X a (upE C W da)) : PE X (.UnaryOp .Not a pos) (upE C W (dNotV da)) := pe_imp (pe_not ha) fun σ H Q h => by
  obtain ⟨th, F, g, M, X, P, p, h⟩ := h
  refine p.bind h fun x v t1 F1 H1 M1 h1 rx l1 p1 => ?_
  obtain ⟨c, e, q⟩ := h1
  subst e
  cases rx
  exact ⟨c, rfl, p1.fin q (.bl _)⟩
theorem de_if (hc : PT X c (upT C W ta)) (ha : PE X a (upE C W da)) (hb : PE X b (upE C W db)) : PE X (.IfExp c a b pos) (upE C W (dIf ta da db)) := pe_imp (pe_ifExp hc ha hb) fun σ H Q h => by
  obtain ⟨th, F, g, M, X, P, p, h⟩ := h
  refine p.bind h fun x v t1 F1 H1 M1 h1 rx l1 p1 => ?_
  cases rx
  cases x with
  | true => exact p1.up h1
  | false => exact p1.up h1
theorem da_nil : PA X [] (upA C W dNil) := pa_imp pa_nil fun σ H Q h => by
  obtain ⟨th, F, g, M, X, P, p, h⟩ := h
  exact p.fin h .nil
theorem da_cons (ha : PE X a (upE C W da)) (hr : PA X es (upA C W ea)) (he : starEach (a :: es) X.env = (false, eval a X.env) :: starEach es X.env := by rfl) : PA X (a :: es) (upA C W (dCons da ea)) := pa_imp (pa_cons ha hr he) fun σ H Q h => by
  obtain ⟨th, F, g, M, X, P, p, h⟩ := h
  exact p.bind h fun x v t1 F1 H1 M1 h1 rx l1 p1 => p1.bind h1 fun xs vs t2 F2 H2 M2 h2 rs l2 p2 => p2.fin h2 (.cons (rx.mono l2) rs)
end
end PD

/-! PD: operators, built-ins, displays, items, slices. -/
namespace PD
open PySem PySem.Spec PyProof.Rows L2

section
variable {C : Cn} {th : List Addr} {F H : Hp} {M : MS} {v : V} {x : D} {xs : List D}
theorem lst_at (h : Hs C th F H M) (r : Rep C th F v x) (e : lstOf x M = some xs) : ∃ a vs, v = .ref a ∧ H a = some (.lst vs) ∧ RepL C th F vs xs := by
  cases r with
  | lst q r =>
    cases e
    exact ⟨_, _, rfl, h.ex _ _ q, r⟩
  | @ptr a k q =>
    unfold lstOf at e
    dsimp only at e
    split at e
    · rename_i ys hm
      cases e
      obtain ⟨_, vs, q2, r⟩ := h.cell _ _ _ hm q
      exact ⟨_, _, rfl, q2, r⟩
    · cases e
  | _ => cases e
theorem seq_at (h : Hs C th F H M) (r : Rep C th F v x) (e : seqOf x M = some xs) : ∃ a vs, v = .ref a ∧ (H a = some (.lst vs) ∨ H a = some (.tup vs)) ∧ RepL C th F vs xs := by
  cases r with
  | lst q r =>
    cases e
    exact ⟨_, _, rfl, .inl (h.ex _ _ q), r⟩
  | tup q r =>
    cases e
    exact ⟨_, _, rfl, .inr (h.ex _ _ q), r⟩
  | @ptr a k q =>
    unfold seqOf at e
    dsimp only at e
    split at e
    · rename_i ys hm
      cases e
      obtain ⟨_, vs, q2, r⟩ := h.cell _ _ _ hm q
      exact ⟨_, _, rfl, .inl q2, r⟩
    · cases e
  | _ => cases e
theorem RepL.cons' {y : D} {ys : List D} {vs : List V} (r : RepL C th F vs (y :: ys)) : ∃ v ws, vs = v :: ws ∧ Rep C th F v y ∧ RepL C th F ws ys := by
  cases r with
  | cons h t => exact ⟨_, _, rfl, h, t⟩
theorem RepL.nil' {vs : List V} (r : RepL C th F vs []) : vs = [] := by
  cases r
  rfl
theorem RepL.one' {y : D} {vs : List V} (r : RepL C th F vs [y]) : ∃ v, vs = [v] ∧ Rep C th F v y := by
  obtain ⟨v, ws, rfl, h, t⟩ := r.cons'
  rw [t.nil']
  exact ⟨v, rfl, h⟩
theorem RepL.two' {y z : D} {vs : List V} (r : RepL C th F vs [y, z]) : ∃ v w, vs = [v, w] ∧ Rep C th F v y ∧ Rep C th F w z := by
  obtain ⟨v, ws, rfl, h, t⟩ := r.cons'
  obtain ⟨w, rfl, h2⟩ := t.one'
  exact ⟨v, w, rfl, h, h2⟩
end

/-! ### displays -/
section
variable {X : Cx} {C : Cn} {W : WX} {a b c : Expr} {da db dc : DE} {pos p : Pos} {es : List Expr} {ea : DA}
theorem da_star (ha : PE X a (upE C W da)) (hr : PA X es (upA C W ea)) (hs : starEach (.Starred a p :: es) X.env = (true, eval a X.env) :: starEach es X.env := by rfl) : PA X (.Starred a p :: es) (upA C W (dStar da ea)) :=
  pa_imp (StX.pa_star ha hr hs) fun σ H Q h => by
    obtain ⟨th, F, g, M, X', P, p, h⟩ := h
    refine p.bind h fun x v t1 F1 H1 M1 h1 rx l1 p1 => ?_
    obtain ⟨xs, e, q⟩ := h1
    obtain ⟨a, vs, rfl, ha, r⟩ := seq_at p1.at_.hs rx e
    refine ⟨a, vs, rfl, ha.elim (fun z => .inr (SqL.of z)) (fun z => .inl (SqT.of z)), p1.bind q fun ys ws t2 F2 H2 M2 h2 rs l2 p2 => p2.fin h2 ((r.mono l2).app rs)⟩
theorem de_tup {k : Nat} (h : PA X es (upA C W ea)) : PE X (.Tuple es k pos) (upE C W (dTup ea)) := pe_imp (pe_tup h) fun σ H Q h => by
  obtain ⟨th, F, g, M, X', P, p, h⟩ := h
  refine p.bind h fun xs vs t1 F1 H1 M1 h1 rx l1 p1 => ?_
  refine ⟨by rw [RepL.len rx]; exact h1.1, fun q hq => p1.new hq h1.2 fun l => .tup upd_same (rx.mono l)⟩
theorem de_lst (h : PA X es (upA C W ea)) : PE X (.List es pos) (upE C W (dLst ea)) := pe_imp (pe_lst h) fun σ H Q h => by
  obtain ⟨th, F, g, M, X', P, p, h⟩ := h
  refine p.bind h fun xs vs t1 F1 H1 M1 h1 rx l1 p1 => ?_
  refine ⟨by rw [RepL.len rx]; exact h1.1, fun q hq => p1.new hq h1.2 fun l => .lst upd_same (rx.mono l)⟩
theorem de_dct : PE X (.Dict [] [] pos) (upE C W (dC .dct)) := pe_imp pe_dnewK fun σ H Q h => by
  obtain ⟨th, F, g, M, X', P, p, h⟩ := h
  exact fun q hq => p.new hq h fun l => .dct upd_same
end

/-! ### ints -/
def dI2 (c : Int → Int → Prop) (f : Int → Int → D) : D → D → MS → (D → Prop) → Prop := fun x y _ k => ∃ i j, x = .int i ∧ y = .int j ∧ c i j ∧ k (f i j)
def dI0 (f : Int → Int → D) : D → D → MS → (D → Prop) → Prop := fun x y _ k => ∃ i j, x = .int i ∧ y = .int j ∧ k (f i j)
theorem lk_I {C : Cn} {c : Int → Int → Prop} {f : Int → Int → V} {d : Int → Int → D} (r : ∀ i j th F, Rep C th F (f i j) (d i j)) : Lk2 C (rI c f) (dI2 c d) := by
  rintro x y M k v w th F H Q hs rx ry ⟨i, j, rfl, rfl, hc, q⟩ kk
  cases rx
  cases ry
  exact ⟨i, j, rfl, rfl, hc, kk _ _ F H q hs Le.rfl (r i j th F)⟩
theorem lk_I0 {C : Cn} {f : Int → Int → V} {d : Int → Int → D} (r : ∀ i j th F, Rep C th F (f i j) (d i j)) : Lk2 C (rI0 f) (dI0 d) := by
  rintro x y M k v w th F H Q hs rx ry ⟨i, j, rfl, rfl, q⟩ kk
  cases rx
  cases ry
  exact ⟨i, j, rfl, rfl, kk _ _ F H q hs Le.rfl (r i j th F)⟩
abbrev rdAdd := dI0 fun i j => .int (i + j)
abbrev rdSub := dI0 fun i j => .int (i - j)
def CMulB (i j : Int) : Prop := CMul i j ∨ CMulW i j
abbrev rdMul := dI2 CMulB fun i j => .int (i * j)
abbrev rdDiv := dI2 CDivW fun i j => .int (i / j)
abbrev rdMod := dI2 (fun _ j => 0 < j) fun i j => .int (i % j)
abbrev rdPow := dI2 CPow fun i j => .int (i ^ j.toNat)
abbrev rdLt := dI0 fun i j => .bl (decide (i < j))
abbrev rdLe := dI0 fun i j => .bl (decide (i ≤ j))
abbrev rdGt := dI0 fun i j => .bl (decide (j < i))
abbrev rdGe := dI0 fun i j => .bl (decide (j ≤ i))
section
variable {X : Cx} {C : Cn} {W : WX} {a b c : Expr} {da db dc : DE} {pos : Pos}
theorem op_mulB : OpR X (binaryOp .Mult) (rI CMulB fun i j => .int (i * j)) := opI fun _ _ _ _ _ _ _ hc q => mul_int q (hc.elim CMul.ok CMulW.ok)
theorem mulB {i j : Int} (h : j.natAbs < 2 ^ 60) : CMulB i j := .inl (.inr (by omega))
theorem mulB' {i j : Int} (h : i.natAbs < 2 ^ 60) : CMulB i j := .inl (.inl (by omega))
theorem divB {i j : Int} (h0 : 0 < j) (h : j.natAbs < 2 ^ 60) : CDivW i j := wide_div h0 h (by decide) (by decide)
theorem e_add (ha : PE X a (upE C W da)) (hb : PE X b (upE C W db)) : PE X (.BinOp a .Add b pos) (upE C W (dOp rdAdd da db)) := de_op op_add (lk_I0 fun _ _ _ _ => .int _) ha hb
theorem e_sub (ha : PE X a (upE C W da)) (hb : PE X b (upE C W db)) : PE X (.BinOp a .Sub b pos) (upE C W (dOp rdSub da db)) := de_op op_sub (lk_I0 fun _ _ _ _ => .int _) ha hb
theorem e_mul (ha : PE X a (upE C W da)) (hb : PE X b (upE C W db)) : PE X (.BinOp a .Mult b pos) (upE C W (dOp rdMul da db)) := de_op op_mulB (lk_I fun _ _ _ _ => .int _) ha hb
theorem e_div (ha : PE X a (upE C W da)) (hb : PE X b (upE C W db)) : PE X (.BinOp a .FloorDiv b pos) (upE C W (dOp rdDiv da db)) := de_op op_fdivW (lk_I fun _ _ _ _ => .int _) ha hb
theorem e_mod (ha : PE X a (upE C W da)) (hb : PE X b (upE C W db)) : PE X (.BinOp a .Mod b pos) (upE C W (dOp rdMod da db)) := de_op op_mod (lk_I fun _ _ _ _ => .int _) ha hb
theorem e_pow (ha : PE X a (upE C W da)) (hb : PE X b (upE C W db)) : PE X (.BinOp a .Pow b pos) (upE C W (dOp rdPow da db)) := de_op op_pow (lk_I fun _ _ _ _ => .int _) ha hb
theorem e_neg (ha : PE X a (upE C W da)) : PE X (.UnaryOp .USub a pos) (upE C W (dUn (fun x _ k => ∃ i, x = .int i ∧ k (.int (-i))) da)) := de_un un_neg (by
  rintro x M k v th F H Q hs rx ⟨i, rfl, q⟩ kk
  cases rx
  exact ⟨i, rfl, kk _ _ F H q hs Le.rfl (.int _)⟩) ha
theorem e_lt (ha : PE X a (upE C W da)) (hb : PE X b (upE C W db)) : PE X (.Compare a [.Lt] [b] pos) (upE C W (dOp rdLt da db)) := de_cmp op_lt (lk_I0 fun _ _ _ _ => .bl _) ha hb
theorem e_le (ha : PE X a (upE C W da)) (hb : PE X b (upE C W db)) : PE X (.Compare a [.LtE] [b] pos) (upE C W (dOp rdLe da db)) := de_cmp op_le (lk_I0 fun _ _ _ _ => .bl _) ha hb
theorem e_gt (ha : PE X a (upE C W da)) (hb : PE X b (upE C W db)) : PE X (.Compare a [.Gt] [b] pos) (upE C W (dOp rdGt da db)) := de_cmp op_gt (lk_I0 fun _ _ _ _ => .bl _) ha hb
theorem e_ge (ha : PE X a (upE C W da)) (hb : PE X b (upE C W db)) : PE X (.Compare a [.GtE] [b] pos) (upE C W (dOp rdGe da db)) := de_cmp op_ge (lk_I0 fun _ _ _ _ => .bl _) ha hb
theorem t_lt (ha : PE X a (upE C W da)) (hb : PE X b (upE C W db)) : PT X (.Compare a [.Lt] [b] pos) (upT C W (dB (dOp rdLt da db))) := dt_cmp op_lt (lk_I0 fun _ _ _ _ => .bl _) ha hb
theorem t_le (ha : PE X a (upE C W da)) (hb : PE X b (upE C W db)) : PT X (.Compare a [.LtE] [b] pos) (upT C W (dB (dOp rdLe da db))) := dt_cmp op_le (lk_I0 fun _ _ _ _ => .bl _) ha hb
theorem t_gt (ha : PE X a (upE C W da)) (hb : PE X b (upE C W db)) : PT X (.Compare a [.Gt] [b] pos) (upT C W (dB (dOp rdGt da db))) := dt_cmp op_gt (lk_I0 fun _ _ _ _ => .bl _) ha hb
theorem t_ge (ha : PE X a (upE C W da)) (hb : PE X b (upE C W db)) : PT X (.Compare a [.GtE] [b] pos) (upT C W (dB (dOp rdGe da db))) := dt_cmp op_ge (lk_I0 fun _ _ _ _ => .bl _) ha hb
/-- a <= b <= c, a <= b < c -/
theorem e_lele (ha : PE X a (upE C W da)) (hb : PE X b (upE C W db)) (hc : PE X c (upE C W dc)) (hm : lastMarks [.LtE, .LtE] [b, c] = false := by with_unfolding_all rfl) : PE X (.Compare a [.LtE, .LtE] [b, c] pos) (upE C W (dCh rdLe rdLe da db dc)) :=
  de_ch op_le op_le (lk_I0 fun _ _ _ _ => .bl _) (lk_I0 fun _ _ _ _ => .bl _) ha hb hc hm
theorem t_lele (ha : PE X a (upE C W da)) (hb : PE X b (upE C W db)) (hc : PE X c (upE C W dc)) (hm : lastMarks [.LtE, .LtE] [b, c] = false := by with_unfolding_all rfl) : PT X (.Compare a [.LtE, .LtE] [b, c] pos) (upT C W (dB (dCh rdLe rdLe da db dc))) :=
  dt_ch op_le op_le (lk_I0 fun _ _ _ _ => .bl _) (lk_I0 fun _ _ _ _ => .bl _) ha hb hc hm
theorem e_lelt (ha : PE X a (upE C W da)) (hb : PE X b (upE C W db)) (hc : PE X c (upE C W dc)) (hm : lastMarks [.LtE, .Lt] [b, c] = false := by with_unfolding_all rfl) : PE X (.Compare a [.LtE, .Lt] [b, c] pos) (upE C W (dCh rdLe rdLt da db dc)) :=
  de_ch op_le op_lt (lk_I0 fun _ _ _ _ => .bl _) (lk_I0 fun _ _ _ _ => .bl _) ha hb hc hm
theorem t_lelt (ha : PE X a (upE C W da)) (hb : PE X b (upE C W db)) (hc : PE X c (upE C W dc)) (hm : lastMarks [.LtE, .Lt] [b, c] = false := by with_unfolding_all rfl) : PT X (.Compare a [.LtE, .Lt] [b, c] pos) (upT C W (dB (dCh rdLe rdLt da db dc))) :=
  dt_ch op_le op_lt (lk_I0 fun _ _ _ _ => .bl _) (lk_I0 fun _ _ _ _ => .bl _) ha hb hc hm
end

/-! ### is None -/
def D.isN : D → Bool
  | .non => true
  | _ => false
theorem Rep.isN {C : Cn} {th : List Addr} {F : Hp} {v : V} {x : D} (r : Rep C th F v x) : decide (v = .non) = x.isN := by
  cases r <;> simp [D.isN]
abbrev rdIs : D → D → MS → (D → Prop) → Prop := fun x y _ k => y = .non ∧ k (.bl x.isN)
abbrev rdNot : D → D → MS → (D → Prop) → Prop := fun x y _ k => y = .non ∧ k (.bl (!x.isN))
section
variable {X : Cx} {C : Cn} {W : WX} {a b c : Expr} {da db dc : DE} {pos : Pos}
theorem lk_is : Lk2 C (fun x y H Q => y = V.non ∧ Q (V.bl (decide (x = V.non))) H) rdIs := by
  rintro x y M k v w th F H Q hs rx ry ⟨rfl, q⟩ kk
  cases ry
  refine ⟨rfl, ?_⟩
  rw [rx.isN]
  exact kk _ _ F H q hs Le.rfl (.bl _)
theorem lk_isnot : Lk2 C (fun x y H Q => y = V.non ∧ Q (V.bl (!decide (x = V.non))) H) rdNot := by
  rintro x y M k v w th F H Q hs rx ry ⟨rfl, q⟩ kk
  cases ry
  refine ⟨rfl, ?_⟩
  rw [rx.isN]
  exact kk _ _ F H q hs Le.rfl (.bl _)
theorem e_is (ha : PE X a (upE C W da)) (hb : PE X b (upE C W db)) : PE X (.Compare a [.Is] [b] pos) (upE C W (dOp rdIs da db)) := de_cmp op_isN lk_is ha hb
theorem e_isnot (ha : PE X a (upE C W da)) (hb : PE X b (upE C W db)) : PE X (.Compare a [.IsNot] [b] pos) (upE C W (dOp rdNot da db)) := de_cmp op_notN lk_isnot ha hb
theorem t_is (ha : PE X a (upE C W da)) (hb : PE X b (upE C W db)) : PT X (.Compare a [.Is] [b] pos) (upT C W (dB (dOp rdIs da db))) := dt_cmp op_isN lk_is ha hb
theorem t_isnot (ha : PE X a (upE C W da)) (hb : PE X b (upE C W db)) : PT X (.Compare a [.IsNot] [b] pos) (upT C W (dB (dOp rdNot da db))) := dt_cmp op_notN lk_isnot ha hb
end

/-! ### == of data -/
mutual
def D.py : D → PyData
  | .bl b => .bool b
  | .int i => .int i
  | .str s => .str s
  | .lst xs => .list (D.pys xs)
  | .tup xs => .tuple (D.pys xs)
  | _ => .none
def D.pys : List D → List PyData
  | [] => []
  | x :: xs => D.py x :: D.pys xs
end
/-- data of depth below n -/
inductive Pl : Nat → D → Prop
  | non (n : Nat) : Pl n .non
  | bl (n : Nat) (b : Bool) : Pl n (.bl b)
  | int (n : Nat) (i : Int) : Pl n (.int i)
  | str (n : Nat) (s : Str) : PyData.strOk s = true → Pl n (.str s)
  | lst (n : Nat) (xs : List D) : (∀ x ∈ xs, Pl n x) → Pl (n + 1) (.lst xs)
  | tup (n : Nat) (xs : List D) : (∀ x ∈ xs, Pl n x) → Pl (n + 1) (.tup xs)
theorem Pl.shape : ∀ {n : Nat} {x : D}, Pl n x → x.py.canLay0 = true ∧ x.py.depth ≤ n := by
  have all : ∀ {n : Nat} {xs : List D}, (∀ x ∈ xs, x.py.canLay0 = true ∧ x.py.depth ≤ n) → PyData.canLayAll0 (D.pys xs) = true ∧ PyData.depthAll (D.pys xs) ≤ n := by
    intro n xs h
    induction xs with
    | nil => exact ⟨rfl, Nat.zero_le _⟩
    | cons x xs ih =>
      obtain ⟨a, b⟩ := h x List.mem_cons_self
      obtain ⟨c, d⟩ := ih fun y hy => h y (List.mem_cons_of_mem _ hy)
      refine ⟨?_, ?_⟩
      · simp only [D.pys, PyData.canLayAll0, a, c, Bool.and_self]
      · simp only [D.pys, PyData.depthAll]; omega
  intro n x h
  induction h with
  | non n => exact ⟨rfl, Nat.zero_le _⟩
  | bl n b => exact ⟨rfl, Nat.zero_le _⟩
  | int n i => exact ⟨rfl, Nat.zero_le _⟩
  | str n s hs => exact ⟨by simpa [D.py, PyData.canLay0] using hs, Nat.zero_le _⟩
  | lst n xs _ ih =>
    obtain ⟨a, b⟩ := all ih
    refine ⟨by simpa [D.py, PyData.canLay0] using a, ?_⟩
    simp only [D.py, PyData.depth]; omega
  | tup n xs _ ih =>
    obtain ⟨a, b⟩ := all ih
    refine ⟨by simpa [D.py, PyData.canLay0] using a, ?_⟩
    simp only [D.py, PyData.depth]; omega
section
variable {C : Cn} {th : List Addr} {F H : Hp}
theorem dpAll : ∀ {xs : List D} {vs : List V}, (∀ x ∈ xs, ∀ v, Rep C th F v x → Dp C.K H v x.py) → RepL C th F vs xs → DpAll C.K H vs (D.pys xs)
  | [], _, _, .nil => .nil
  | _ :: _, _, k, .cons h t => .cons (k _ List.mem_cons_self _ h) (dpAll (fun y hy => k y (List.mem_cons_of_mem _ hy)) t)
theorem Rep.dp (ex : Ex F H) {n : Nat} {x : D} (p : Pl n x) : ∀ v : V, Rep C th F v x → Dp C.K H v x.py := by
  induction p with
  | non n => intro v r; cases r; exact .non
  | bl n b => intro v r; cases r; exact .bl b
  | int n i => intro v r; cases r; exact .int i
  | str n s hs => intro v r; cases r; exact .str s
  | lst n xs _ ih =>
    intro v r
    cases r with
    | lst q r => exact .lst (SqL.of (ex _ _ q)) (dpAll ih r)
  | tup n xs _ ih =>
    intro v r
    cases r with
    | tup q r => exact .tup (SqT.of (ex _ _ q)) (dpAll ih r)
end
theorem Pl.shaped {n : Nat} {x : D} (p : Pl n x) (h : n ≤ 64 := by decide) : SeqAt.shaped x.py = true := by
  obtain ⟨a, b⟩ := p.shape
  unfold SeqAt.shaped
  rw [a, decide_eq_true (by omega)]
  rfl
/-- == as Python says it, over data; a list cell reads as its list -/
def cellD (M : MS) : D → D
  | .ptr j => match M[j]? with
    | some (.lst xs) => .lst xs
    | _ => .non
  | x => x
def eqD (x y : D) : Bool := PyData.eqv x.py y.py
def EqOk (M : MS) (x : D) : Prop := Pl 30 (cellD M x) ∧ ∀ j, x = .ptr j → ∃ xs, M[j]? = some (.lst xs)
abbrev rdEq : D → D → MS → (D → Prop) → Prop := fun x y M k => EqOk M x ∧ EqOk M y ∧ k (.bl (eqD (cellD M x) (cellD M y)))
abbrev rdNe : D → D → MS → (D → Prop) → Prop := fun x y M k => EqOk M x ∧ EqOk M y ∧ k (.bl (!eqD (cellD M x) (cellD M y)))
section
variable {C : Cn} {th : List Addr} {F H : Hp} {M : MS} {v : V} {x : D}
theorem eq_at (h : Hs C th F H M) (r : Rep C th F v x) (e : EqOk M x) : Dp C.K H v (cellD M x).py := by
  obtain ⟨e1, e2⟩ := e
  cases r with
  | @ptr a k q =>
    obtain ⟨xs, hm⟩ := e2 k rfl
    obtain ⟨n, vs, q2, r⟩ := h.cell _ _ _ hm q
    have ec : cellD M (.ptr k) = .lst xs := by simp [cellD, hm]
    rw [ec] at e1 ⊢
    have e3 : Pl 30 (.lst xs) := e1
    cases e3 with
    | lst m _ hx => exact .lst (SqL.of q2) (dpAll (fun x hx2 v r => Rep.dp h.ex (hx x hx2) v r) r)
  | non => exact Rep.dp (th := th) h.ex e1 _ .non
  | bl b => exact Rep.dp (th := th) h.ex e1 _ (.bl b)
  | int i => exact Rep.dp (th := th) h.ex e1 _ (.int i)
  | str i => exact Rep.dp (th := th) h.ex e1 _ (.str i)
  | lst a b => exact Rep.dp (th := th) h.ex e1 _ (.lst a b)
  | tup a b => exact Rep.dp (th := th) h.ex e1 _ (.tup a b)
  | gm a b => exact Rep.dp (th := th) h.ex e1 _ (.gm a b)
  | dct a => exact Rep.dp (th := th) h.ex e1 _ (.dct a)
  | scr a => exact Rep.dp (th := th) h.ex e1 _ (.scr a)
  | ty a => exact Rep.dp (th := th) h.ex e1 _ (.ty a)
  | gcl => exact Rep.dp (th := th) h.ex e1 _ .gcl
  | exc a b c => exact Rep.dp (th := th) h.ex e1 _ (.exc a b c)
  | exn a => exact Rep.dp (th := th) h.ex e1 _ (.exn a)
  | ecl a => exact Rep.dp (th := th) h.ex e1 _ (.ecl a)
theorem lk_eq : Lk2 C (rEqD C.K) rdEq := by
  rintro x y M k v w th F H Q hs rx ry ⟨e1, e2, q⟩ kk
  exact ⟨_, _, eq_at hs rx e1, eq_at hs ry e2, e1.1.shaped, e2.1.shaped, kk _ _ F H q hs Le.rfl (.bl _)⟩
theorem lk_ne : Lk2 C (rNeD C.K) rdNe := by
  rintro x y M k v w th F H Q hs rx ry ⟨e1, e2, q⟩ kk
  exact ⟨_, _, eq_at hs rx e1, eq_at hs ry e2, e1.1.shaped, e2.1.shaped, kk _ _ F H q hs Le.rfl (.bl _)⟩
end
section
variable {X : Cx} {C : Cn} {W : WX} {a b c : Expr} {da db dc : DE} {pos : Pos}
theorem e_eq (hu : X.A.units + 64 < cLine) (ha : PE X a (upE C W da)) (hb : PE X b (upE C W db)) (hK : X.K = C.K := by rfl) : PE X (.Compare a [.Eq] [b] pos) (upE C W (dOp rdEq da db)) := de_cmp (hK ▸ op_eqD hu) lk_eq ha hb
theorem e_ne (hu : X.A.units + 64 < cLine) (ha : PE X a (upE C W da)) (hb : PE X b (upE C W db)) (hK : X.K = C.K := by rfl) : PE X (.Compare a [.NotEq] [b] pos) (upE C W (dOp rdNe da db)) := de_cmp (hK ▸ op_neD hu) lk_ne ha hb
theorem t_eq (hu : X.A.units + 64 < cLine) (ha : PE X a (upE C W da)) (hb : PE X b (upE C W db)) (hK : X.K = C.K := by rfl) : PT X (.Compare a [.Eq] [b] pos) (upT C W (dB (dOp rdEq da db))) := dt_cmp (hK ▸ op_eqD hu) lk_eq ha hb
theorem t_ne (hu : X.A.units + 64 < cLine) (ha : PE X a (upE C W da)) (hb : PE X b (upE C W db)) (hK : X.K = C.K := by rfl) : PT X (.Compare a [.NotEq] [b] pos) (upT C W (dB (dOp rdNe da db))) := dt_cmp (hK ▸ op_neD hu) lk_ne ha hb
end

/-! ### lists and tuples -/
abbrev rdCat : D → D → MS → (D → Prop) → Prop := fun x y M k => ∃ xs ys, lstOf x M = some xs ∧ lstOf y M = some ys ∧ xs.length + ys.length ≤ sizeLine ∧ k (.lst (xs ++ ys))
abbrev rdCatT : D → D → MS → (D → Prop) → Prop := fun x y M k => ∃ xs ys, x = .tup xs ∧ y = .tup ys ∧ xs.length + ys.length ≤ sizeLine ∧ k (.tup (xs ++ ys))
abbrev rdRep : D → D → MS → (D → Prop) → Prop := fun x y M k => ∃ xs n, lstOf x M = some xs ∧ y = .int n ∧ 0 ≤ n ∧ n < 1000000 ∧ xs.length * n.toNat ≤ sizeLine ∧ k (.lst (List.replicate n.toNat xs).flatten)
abbrev rdRepT : D → D → MS → (D → Prop) → Prop := fun x y M k => ∃ xs n, x = .tup xs ∧ y = .int n ∧ xs ≠ [] ∧ 2 ≤ n ∧ n ≤ 1000 ∧ xs.length ≤ 1000 ∧ k (.tup (List.replicate n.toNat xs).flatten)
section
variable {C : Cn} {th : List Addr} {F H : Hp} {M : MS}
theorem lk_cat : Lk2 C rCat rdCat := by
  rintro x y M k v w th F H Q hs rx ry ⟨xs, ys, e1, e2, hz, q⟩ kk
  obtain ⟨a, vs, rfl, h1, r1⟩ := lst_at hs rx e1
  obtain ⟨b, ws, rfl, h2, r2⟩ := lst_at hs ry e2
  refine ⟨a, b, vs, ws, rfl, rfl, h1, h2, by rw [RepL.len r1, RepL.len r2]; exact hz, fun p hp => ?_⟩
  have l : Le th F th (upd F p (.lst (vs ++ ws))) := Le.nw (hs.ex.fr hp)
  exact kk _ _ _ _ q (hs.new hp) l (.lst upd_same ((r1.mono l).app (r2.mono l)))
theorem lk_catT : Lk2 C (rCatA C.K) rdCatT := by
  rintro x y M k v w th F H Q hs rx ry ⟨xs, ys, rfl, rfl, hz, q⟩ kk
  cases rx with
  | @tup a vs _ h1 r1 =>
    cases ry with
    | @tup b ws _ h2 r2 =>
      refine ⟨a, b, vs, ws, rfl, rfl, SqT.of (hs.ex _ _ h1), SqT.of (hs.ex _ _ h2), by rw [RepL.len r1, RepL.len r2]; exact hz, fun e => ?_, fun e1 e2 => ?_, fun e1 e2 p hp => ?_⟩
      · subst e
        cases r1
        exact kk _ _ F H q hs Le.rfl (.tup h2 r2)
      · subst e2
        cases r2
        rw [List.append_nil] at q
        exact kk _ _ F H q hs Le.rfl (.tup h1 r1)
      · have l : Le th F th (upd F p (.tup (vs ++ ws))) := Le.nw (hs.ex.fr hp)
        exact kk _ _ _ _ q (hs.new hp) l (.tup upd_same ((r1.mono l).app (r2.mono l)))
theorem lk_rep : Lk2 C rRep rdRep := by
  rintro x y M k v w th F H Q hs rx ry ⟨xs, n, e1, rfl, h0, h1, hz, q⟩ kk
  obtain ⟨a, vs, rfl, ha, r1⟩ := lst_at hs rx e1
  cases ry
  refine ⟨a, n, vs, rfl, rfl, ha, by omega, by omega, by rw [RepL.len r1]; exact hz, fun p hp => ?_⟩
  have l : Le th F th (upd F p (.lst (List.replicate n.toNat vs).flatten)) := Le.nw (hs.ex.fr hp)
  exact kk _ _ _ _ q (hs.new hp) l (.lst upd_same (RepL.rep (r1.mono l)))
theorem lk_repT : Lk2 C (rRepT C.K) rdRepT := by
  rintro x y M k v w th F H Q hs rx ry ⟨xs, n, rfl, rfl, hne, h0, h1, hz, q⟩ kk
  cases rx with
  | @tup a vs _ ha r1 =>
    cases ry
    refine ⟨a, n, vs, rfl, rfl, SqT.of (hs.ex _ _ ha), ?_, h0, h1, by rw [RepL.len r1]; exact hz, fun p hp => ?_⟩
    · intro e
      subst e
      cases r1
      exact hne rfl
    have l : Le th F th (upd F p (.tup (List.replicate n.toNat vs).flatten)) := Le.nw (hs.ex.fr hp)
    exact kk _ _ _ _ q (hs.new hp) l (.tup upd_same (RepL.rep (r1.mono l)))
end
section
variable {X : Cx} {C : Cn} {W : WX} {a b c : Expr} {da db dc : DE} {pos : Pos}
theorem e_cat (ha : PE X a (upE C W da)) (hb : PE X b (upE C W db)) : PE X (.BinOp a .Add b pos) (upE C W (dOp rdCat da db)) := de_op op_cat lk_cat ha hb
theorem e_catT (ha : PE X a (upE C W da)) (hb : PE X b (upE C W db)) (hK : X.K = C.K := by rfl) : PE X (.BinOp a .Add b pos) (upE C W (dOp rdCatT da db)) := de_op (hK ▸ op_catA) lk_catT ha hb
theorem e_rep (ha : PE X a (upE C W da)) (hb : PE X b (upE C W db)) : PE X (.BinOp a .Mult b pos) (upE C W (dOp rdRep da db)) := de_op op_rep lk_rep ha hb
theorem e_repT (ha : PE X a (upE C W da)) (hb : PE X b (upE C W db)) (hK : X.K = C.K := by rfl) : PE X (.BinOp a .Mult b pos) (upE C W (dOp rdRepT da db)) := de_op (hK ▸ op_repT) lk_repT ha hb
end

/-! ### items, slices -/
/-- xs[i], i of any sign -/
def atD (xs : List D) (i : Int) : Option D := (ixN xs.length i).bind fun j => xs[j]?
abbrev rdIx : D → D → MS → (D → Prop) → Prop := fun x y M k => ∃ xs i z, seqOf x M = some xs ∧ y = .int i ∧ atD xs i = some z ∧ k z
abbrev rdIxS : D → D → MS → (D → Prop) → Prop := fun x y _ k => ∃ s i c, x = .str s ∧ y = .int i ∧ s.length ≤ sizeLine ∧ atI s.cps.toList i = some c ∧ k (.str ⟨#[c]⟩)
def cutD (xs : List D) (lo hi : Option Int) : List D := (xs.drop (HT.sIx xs.length 0 lo)).take (HT.sIx xs.length xs.length hi - HT.sIx xs.length 0 lo)
abbrev rdSlL : D → Option Int → Option Int → MS → (D → Prop) → Prop := fun x lo hi M k => ∃ xs, lstOf x M = some xs ∧ k (.lst (cutD xs lo hi))
abbrev rdSlT : D → Option Int → Option Int → MS → (D → Prop) → Prop := fun x lo hi _ k => ∃ xs, x = .tup xs ∧ k (.tup (cutD xs lo hi))
section
variable {C : Cn} {th : List Addr} {F H : Hp} {M : MS}
theorem atD_V {vs : List V} {xs : List D} {i : Int} {z : D} (r : RepL C th F vs xs) (e : atD xs i = some z) : ∃ v, atI vs i = some v ∧ Rep C th F v z := by
  unfold atD at e
  unfold atI
  rw [RepL.len r]
  cases h : ixN xs.length i with
  | none => rw [h] at e; cases e
  | some j =>
    rw [h] at e
    exact r.get e
theorem lk_ix : Lk2 C (rIx C.K) rdIx := by
  rintro x y M k v w th F H Q hs rx ry ⟨xs, i, z, e1, rfl, e2, q⟩ kk
  obtain ⟨a, vs, rfl, h1, r1⟩ := seq_at hs rx e1
  cases ry
  obtain ⟨u, e3, ru⟩ := atD_V r1 e2
  rcases h1 with h1 | h1
  · exact .inl ⟨a, vs, i, u, rfl, rfl, SqL.of h1, e3, kk _ _ F H q hs Le.rfl ru⟩
  · exact .inr (.inl ⟨a, vs, i, u, rfl, rfl, SqT.of h1, e3, kk _ _ F H q hs Le.rfl ru⟩)
theorem lk_ixS : Lk2 C rIxS rdIxS := by
  rintro x y M k v w th F H Q hs rx ry ⟨s, i, c, rfl, rfl, hz, e, q⟩ kk
  cases rx
  cases ry
  exact ⟨s, i, c, rfl, rfl, hz, e, kk _ _ F H q hs Le.rfl (.str _)⟩
theorem RepL.cut' {vs : List V} {xs : List D} (lo hi : Option Int) (r : RepL C th F vs xs) : RepL C th F (cutV vs lo hi) (cutD xs lo hi) := by
  unfold cutV cutD
  rw [RepL.len r]
  exact (r.drop _).take _
theorem lk_slL : LkS C (rSlL C.K) rdSlL := by
  rintro x lo hi M k v th F H Q hs rx ⟨xs, e, q⟩ kk
  obtain ⟨a, vs, rfl, h1, r1⟩ := lst_at hs rx e
  refine ⟨a, vs, rfl, SqL.of h1, fun p hp => ?_⟩
  have l : Le th F th (upd F p (.lst (cutV vs lo hi))) := Le.nw (hs.ex.fr hp)
  exact kk _ _ _ _ q (hs.new hp) l (.lst upd_same ((r1.mono l).cut' lo hi))
theorem lk_slT : LkS C (rSlA C.K) rdSlT := by
  rintro x lo hi M k v th F H Q hs rx ⟨xs, rfl, q⟩ kk
  cases rx with
  | @tup a vs _ h1 r1 =>
    refine ⟨a, vs, rfl, SqT.of (hs.ex _ _ h1), fun e => ?_, fun _ p hp => ?_⟩
    · have e2 : cutD xs lo hi = xs := by
        have l := RepL.len r1
        unfold cutD
        rw [← l, e.1, e.2, List.drop_zero, Nat.sub_zero, l, List.take_length]
      rw [e2] at q
      exact kk _ _ F H q hs Le.rfl (.tup h1 r1)
    · have l : Le th F th (upd F p (.tup (cutV vs lo hi))) := Le.nw (hs.ex.fr hp)
      exact kk _ _ _ _ q (hs.new hp) l (.tup upd_same ((r1.mono l).cut' lo hi))
end
section
variable {X : Cx} {C : Cn} {W : WX} {a b c : Expr} {da db dc : DE} {pos p2 : Pos} {lo hi : Option Expr} {dl dh : DO}
theorem de_ix {rv : R2} {rd : D → D → MS → (D → Prop) → Prop} (ho : IxR X rv) (l : Lk2 C rv rd) (ha : PE X a (upE C W da)) (hb : PE X b (upE C W db)) (hs : PlainIx b := by exact fun _ _ => rfl) : PE X (.Subscript a b pos) (upE C W (dOp rd da db)) :=
  pe_imp (pe_ix ho ha hb hs) (op_up l)
theorem e_ix (ha : PE X a (upE C W da)) (hb : PE X b (upE C W db)) (hs : PlainIx b := by exact fun _ _ => rfl) (hK : X.K = C.K := by rfl) : PE X (.Subscript a b pos) (upE C W (dOp rdIx da db)) := de_ix (hK ▸ ix_seq) lk_ix ha hb hs
theorem e_ixS (ha : PE X a (upE C W da)) (hb : PE X b (upE C W db)) (hs : PlainIx b := by exact fun _ _ => rfl) : PE X (.Subscript a b pos) (upE C W (dOp rdIxS da db)) := de_ix ix_str lk_ixS ha hb hs
theorem do_none : PO X none (upO C W dNoPart) := po_imp po_none fun σ H Q h => by
  obtain ⟨th, F, g, M, X', P, p, h⟩ := h
  exact p.fin h rfl
theorem do_some (ha : PE X a (upE C W da)) : PO X (some a) (upO C W (dPart da)) := po_imp (po_some ha) fun σ H Q h => by
  obtain ⟨th, F, g, M, X', P, p, h⟩ := h
  refine p.bind h fun x v t1 F1 H1 M1 h1 rx l1 p1 => ?_
  obtain ⟨i, rfl, q⟩ := h1
  cases rx
  exact ⟨i, rfl, p1.fin q rfl⟩
theorem de_sl {rv : V → Option Int → Option Int → Hp → VK → Prop} {rd : D → Option Int → Option Int → MS → (D → Prop) → Prop} (hr : SlR X rv) (l : LkS C rv rd) (ha : PE X a (upE C W da)) (hl : PO X lo (upO C W dl)) (hu : PO X hi (upO C W dh)) :
    PE X (.Subscript a (.Slice lo hi none p2) pos) (upE C W (dSl rd da dl dh)) := pe_imp (pe_slice hr ha hl hu) fun σ H Q h => by
  obtain ⟨th, F, g, M, X', P, p, h⟩ := h
  refine p.bind h fun x v t1 F1 H1 M1 h1 rx l1 p1 => p1.bind h1 fun y w t2 F2 H2 M2 h2 ry l2 p2 => p2.bind h2 fun z u t3 F3 H3 M3 h3 rz l3 p3 => ?_
  cases ry
  cases rz
  exact l x y z M3 _ v t3 F3 H3 Q p3.at_.hs (rx.mono (l2.tr l3)) h3 p3.opk
theorem e_slL (ha : PE X a (upE C W da)) (hl : PO X lo (upO C W dl)) (hu : PO X hi (upO C W dh)) (hK : X.K = C.K := by rfl) : PE X (.Subscript a (.Slice lo hi none p2) pos) (upE C W (dSl rdSlL da dl dh)) := de_sl (hK ▸ sl_list) lk_slL ha hl hu
theorem e_slT (ha : PE X a (upE C W da)) (hl : PO X lo (upO C W dl)) (hu : PO X hi (upO C W dh)) (hK : X.K = C.K := by rfl) : PE X (.Subscript a (.Slice lo hi none p2) pos) (upE C W (dSl rdSlT da dl dh)) := de_sl (hK ▸ sl_tupA) lk_slT ha hl hu
end
end PD

/-! PD: built-ins, fields, calls, instances. -/
namespace PySem
open PySem.W
section
variable {prog : Program} {w : World} {A : Around} {E : Value → Shared → Prop} {s : Shared} {l : Addr} {xs : Array (Int × Tok)}
theorem pd_iterTup {Q : Value → Shared → Prop} (hl : s.heap.IsTuple l (intItems xs))
    (h : ∀ s₂ : Shared, s₂ = { s with heap := s.heap.push { cls := .type "tuple_iterator", data := .fields #[.ref l, .int 0 0] } } →
      (s₂.heap.IsTupleIter s.heap.objs.size l 0 ∧ s₂.heap.IsTuple l (intItems xs)) → (∀ b ∈ [s.heap.objs.size, l], b < s₂.heap.objs.size) → l ≠ s.heap.objs.size → Q (.ref s.heap.objs.size) s₂) :
    wpAny (model prog w) A (pyIter (.ref l)) Q E s := by
  have hlt : l < s.heap.objs.size := by obtain ⟨_, e, _⟩ := hl; exact Heap.lt_size e
  refine wpAny_pyIter_tuple hl (h _ rfl ⟨⟨_, Heap.get?_push_size _ rfl, rfl, rfl⟩, hl.at fun o e => Heap.get?_push_of_some _ e⟩ (fun b hb => ?_) (Nat.ne_of_lt hlt))
  show b < (s.heap.push _).objs.size
  rw [Heap.size_push]
  rcases List.mem_cons.mp hb with rfl | hb
  · exact Nat.lt_succ_self _
  · rcases List.mem_cons.mp hb with rfl | hb
    · exact Nat.lt_succ_of_lt hlt
    · cases hb
theorem pd_maxTup {Q : Value → Shared → Prop} (hh : A.handled = none) (hl : s.heap.IsTuple l (intItems xs)) (hne : 0 < xs.size)
    (h : ∀ v h' tk, (intItems xs)[argBest (fun i j => decide (numAt xs i > numAt xs j)) (xs.size - 1)]? = some v → (∀ b o, s.heap.get? b = some o → h'.get? b = some o) → Q v { s with heap := h', toks := tk }) :
    wpAny (model prog w) A (call (.builtin "max") [.ref l]) Q E s := by
  refine call_max_walk (pd_iterTup hl fun s₂ e st hfp hlI => ?_)
  subst e
  refine ⟨_, _, _, _, _, _, _, rfl, Walks.tuple (A := A.in1) hh _ l hlI (intItems xs), st, hfp, by simpa [intItems] using hne, CmpOf.ints_gt (numAt xs) (fun _ _ => intItems_at), fun v h' tk hP hk => ?_⟩
  exact h v h' tk (by simpa [intItems] using hP) (fun b o e => hk b o (fun m => absurd (Heap.lt_size e) (by rw [List.mem_singleton.mp m]; exact Nat.lt_irrefl _)) (Heap.get?_push_of_some _ e))
theorem pd_sumTup {Q : Value → Shared → Prop} (hh : A.handled = none) (hl : s.heap.IsTuple l (intItems xs))
    (h : ∀ h' tk t', (∀ b o, s.heap.get? b = some o → h'.get? b = some o) → Q (.int (preSum (numAt xs) xs.size) t') { s with heap := h', toks := tk }) :
    wpAny (model prog w) A (call (.builtin "sum") [.ref l]) Q E s := by
  refine call_sum_walkG (pd_iterTup hl fun s₂ e st hfp hlI => ?_)
  subst e
  refine ⟨_, _, _, _, _, _, numAt xs, rfl, Walks.tuple (A := A.in1) hh _ l hlI (intItems xs), st, hfp, (fun _ _ => intItems_at), fun h' tk t' hk => ?_⟩
  have := h h' tk t' (fun b o e => hk b o (fun m => absurd (Heap.lt_size e) (by rw [List.mem_singleton.mp m]; exact Nat.lt_irrefl _)) (Heap.get?_push_of_some _ e))
  simpa [intItems] using this
end
end PySem
namespace PD
open PySem PySem.Spec PyProof.Rows L2 PySem.W
section
variable {X : Cx}
def rSumT (K : PySem.W.Frag) : List V → Hp → VK → Prop := fun vs H Q => ∃ (a : Addr) (ns : List Int), vs = [V.ref a] ∧ SqT K H a (ns.map V.int) ∧ Q (.int ns.sum) H
theorem cr_sumT (hc : X.calm = true) : CallR X (.builtin "sum") (rSumT X.K) := by
  intro pins s σ H vs us Q I r h
  obtain ⟨a, ns, rfl, hs, q⟩ := h
  obtain ⟨its, rv, hl, _⟩ := I.tuple hs
  rw [Vals.ref1 r]
  have hi := rv.ints
  obtain ⟨xs, e⟩ := hi.allInts.items
  have hn : numsOf (intItems xs).toList = ns := by rw [← e]; exact hi.numsOf
  rw [nums_intItems] at hn
  rw [e] at hl
  refine PySem.pd_sumTup (I.ok.hd hc) hl fun h' tk t' hk => ?_
  refine ⟨.int _, H, I.kept hk, ⟨_, rfl⟩, ?_⟩
  rw [preSum_eq, List.take_of_length_le (by simp), hn]
  exact q
def rMaxT (K : PySem.W.Frag) : List V → Hp → VK → Prop := fun vs H Q => ∃ (a : Addr) (ns : List Int), vs = [V.ref a] ∧ SqT K H a (ns.map V.int) ∧ 0 < ns.length ∧ ∀ m, m ∈ ns → (∀ y, y ∈ ns → y ≤ m) → Q (.int m) H
theorem cr_maxT (hc : X.calm = true) : CallR X (.builtin "max") (rMaxT X.K) := by
  intro pins s σ H vs us Q I r h
  obtain ⟨a, ns, rfl, hs, hne, q⟩ := h
  obtain ⟨its, rv, hl, _⟩ := I.tuple hs
  rw [Vals.ref1 r]
  have hi := rv.ints
  obtain ⟨xs, e⟩ := hi.allInts.items
  have hn : numsOf (intItems xs).toList = ns := by rw [← e]; exact hi.numsOf
  rw [nums_intItems] at hn
  subst hn
  rw [e] at hl
  have hsz : 0 < xs.size := by simpa using hne
  refine PySem.pd_maxTup (I.ok.hd hc) hl hsz fun v h' tk hv hk => ?_
  obtain ⟨t, rfl⟩ := intItems_at hv
  obtain ⟨h1, h2⟩ := argBest_gt (numAt xs) (xs.size - 1)
  refine ⟨.int _, H, I.kept hk, ⟨_, rfl⟩, q _ ?_ fun a ha => ?_⟩
  · rw [numAt_eq]; exact PySem.getD_mem (by rw [List.length_map, Array.length_toList]; omega)
  · obtain ⟨j, hj, rfl⟩ := mem_getD ha
    rw [List.length_map, Array.length_toList] at hj
    rw [← numAt_eq]; exact h2 j (by omega)
end

/-! ### built-ins by data -/
def lmax : List Int → Int
  | [] => 0
  | x :: xs => xs.foldl (fun a b => if b > a then b else a) x
def lmin : List Int → Int
  | [] => 0
  | x :: xs => xs.foldl (fun a b => if b < a then b else a) x
theorem foldmax_mem : ∀ (xs : List Int) (x : Int), xs.foldl (fun a b => if b > a then b else a) x ∈ x :: xs
  | [], x => by simp
  | y :: ys, x => by
    rw [List.foldl_cons]
    have h := foldmax_mem ys (if y > x then y else x)
    rcases List.mem_cons.mp h with h | h
    · rw [h]; split <;> simp
    · exact List.mem_cons_of_mem _ (List.mem_cons_of_mem _ h)
theorem foldmax_le : ∀ (xs : List Int) (x : Int), ∀ y ∈ x :: xs, y ≤ xs.foldl (fun a b => if b > a then b else a) x
  | [], x, y, h => by simp at h; rw [h]; exact Int.le_refl _
  | z :: ys, x, y, h => by
    rw [List.foldl_cons]
    have k := foldmax_le ys (if z > x then z else x)
    have k0 := k _ List.mem_cons_self
    rcases List.mem_cons.mp h with rfl | h
    · exact Int.le_trans (by split <;> omega) k0
    · rcases List.mem_cons.mp h with rfl | h
      · exact Int.le_trans (by split <;> omega) k0
      · exact k y (List.mem_cons_of_mem _ h)
theorem foldmin_mem : ∀ (xs : List Int) (x : Int), xs.foldl (fun a b => if b < a then b else a) x ∈ x :: xs
  | [], x => by simp
  | y :: ys, x => by
    rw [List.foldl_cons]
    have h := foldmin_mem ys (if y < x then y else x)
    rcases List.mem_cons.mp h with h | h
    · rw [h]; split <;> simp
    · exact List.mem_cons_of_mem _ (List.mem_cons_of_mem _ h)
theorem foldmin_le : ∀ (xs : List Int) (x : Int), ∀ y ∈ x :: xs, xs.foldl (fun a b => if b < a then b else a) x ≤ y
  | [], x, y, h => by simp at h; rw [h]; exact Int.le_refl _
  | z :: ys, x, y, h => by
    rw [List.foldl_cons]
    have k := foldmin_le ys (if z < x then z else x)
    have k0 := k _ List.mem_cons_self
    rcases List.mem_cons.mp h with rfl | h
    · exact Int.le_trans k0 (by split <;> omega)
    · rcases List.mem_cons.mp h with rfl | h
      · exact Int.le_trans k0 (by split <;> omega)
      · exact k y (List.mem_cons_of_mem _ h)
theorem lmax_mem {l : List Int} (h : l ≠ []) : lmax l ∈ l := by
  cases l with
  | nil => exact absurd rfl h
  | cons x xs => exact foldmax_mem xs x
theorem le_lmax {l : List Int} {y : Int} (h : y ∈ l) : y ≤ lmax l := by
  cases l with
  | nil => cases h
  | cons x xs => exact foldmax_le xs x y h
theorem lmin_mem {l : List Int} (h : l ≠ []) : lmin l ∈ l := by
  cases l with
  | nil => exact absurd rfl h
  | cons x xs => exact foldmin_mem xs x
theorem lmin_le {l : List Int} {y : Int} (h : y ∈ l) : lmin l ≤ y := by
  cases l with
  | nil => cases h
  | cons x xs => exact foldmin_le xs x y h
theorem lmax_of {l : List Int} {m : Int} (h : m ∈ l) (k : ∀ y ∈ l, y ≤ m) : m = lmax l := by
  have a := le_lmax h
  have b := k _ (lmax_mem (fun e => by rw [e] at h; cases h))
  omega
theorem lmin_of {l : List Int} {m : Int} (h : m ∈ l) (k : ∀ y ∈ l, m ≤ y) : m = lmin l := by
  have a := lmin_le h
  have b := k _ (lmin_mem (fun e => by rw [e] at h; cases h))
  omega

abbrev RA := List D → MS → (D → Prop) → Prop
abbrev rdLen : RA := fun xs M k => ∃ x ys, xs = [x] ∧ seqOf x M = some ys ∧ k (.int (ys.length : Int))
abbrev rdLenS : RA := fun xs _ k => ∃ s, xs = [.str s] ∧ s.length ≤ sizeLine ∧ k (.int (s.length : Int))
abbrev rdAbs : RA := fun xs _ k => ∃ i, xs = [.int i] ∧ k (.int (if i < 0 then -i else i))
abbrev rdInt : RA := fun xs _ k => (∃ i, xs = [.int i] ∧ k (.int i)) ∨ ∃ b, xs = [.bl b] ∧ k (.int (if b then 1 else 0))
abbrev rdSum : RA := fun xs M k => ∃ x l, xs = [x] ∧ seqOf x M = some (iL l) ∧ k (.int l.sum)
abbrev rdMax : RA := fun xs M k => ∃ x l, xs = [x] ∧ seqOf x M = some (iL l) ∧ l ≠ [] ∧ k (.int (lmax l))
abbrev rdMin : RA := fun xs M k => ∃ x l, xs = [x] ∧ lstOf x M = some (iL l) ∧ l ≠ [] ∧ k (.int (lmin l))
abbrev rdMax2 : RA := fun xs _ k => ∃ i j, xs = [.int i, .int j] ∧ k (.int (if j > i then j else i))
abbrev rdAll : RA := fun xs M k => ∃ (x : D) (l : List Bool), xs = [x] ∧ lstOf x M = some (l.map D.bl) ∧ k (.bl (l.all id))
abbrev rdTup : RA := fun xs M k => ∃ x ys, xs = [x] ∧ seqOf x M = some ys ∧ k (.tup ys)
abbrev rdList : RA := fun xs M k => ∃ x ys, xs = [x] ∧ seqOf x M = some ys ∧ k (.lst ys)
section
variable {C : Cn} {th : List Addr} {F H : Hp} {M : MS}
theorem RepL.ofB : ∀ {l : List Bool} {vs : List V}, RepL C th F vs (l.map D.bl) → vs = l.map V.bl
  | [], _, .nil => rfl
  | i :: l, _, .cons h r => by
    cases h
    rw [RepL.ofB r]
    rfl
theorem lk_len : LkA C (fun xs H Q => ∃ p ys, xs = [V.ref p] ∧ (SqL C.K H p ys ∨ SqT C.K H p ys) ∧ Q (V.int ys.length) H) rdLen := by
  rintro xs M k vs th F H Q hs rx ⟨x, ys, rfl, e, q⟩ kk
  obtain ⟨v, rfl, r⟩ := rx.one'
  obtain ⟨a, ws, rfl, h1, r1⟩ := seq_at hs r e
  refine ⟨a, ws, rfl, h1.elim (fun z => .inl (SqL.of z)) (fun z => .inr (SqT.of z)), ?_⟩
  rw [RepL.len r1]
  exact kk _ _ F H q hs Le.rfl (.int _)
theorem lk_lenS : LkA C (fun xs H Q => ∃ z, xs = [V.str z] ∧ z.length ≤ sizeLine ∧ Q (V.int z.length) H) rdLenS := by
  rintro xs M k vs th F H Q hs rx ⟨x, rfl, e, q⟩ kk
  obtain ⟨v, rfl, r⟩ := rx.one'
  cases r
  exact ⟨x, rfl, e, kk _ _ F H q hs Le.rfl (.int _)⟩
theorem lk_abs : LkA C (fun xs H Q => ∃ i, xs = [V.int i] ∧ Q (V.int (if i < 0 then -i else i)) H) rdAbs := by
  rintro xs M k vs th F H Q hs rx ⟨x, rfl, q⟩ kk
  obtain ⟨v, rfl, r⟩ := rx.one'
  cases r
  exact ⟨x, rfl, kk _ _ F H q hs Le.rfl (.int _)⟩
theorem lk_int : LkA C (fun xs H Q => (∃ i, xs = [V.int i] ∧ Q (V.int i) H) ∨ ∃ k, xs = [V.bl k] ∧ Q (V.int (if k then 1 else 0)) H) rdInt := by
  rintro xs M k vs th F H Q hs rx (⟨x, rfl, q⟩ | ⟨x, rfl, q⟩) kk
  · obtain ⟨v, rfl, r⟩ := rx.one'
    cases r
    exact .inl ⟨x, rfl, kk _ _ F H q hs Le.rfl (.int _)⟩
  · obtain ⟨v, rfl, r⟩ := rx.one'
    cases r
    exact .inr ⟨x, rfl, kk _ _ F H q hs Le.rfl (.int _)⟩
theorem lk_sum : LkA C (fun xs H Q => rSum C.K xs H Q ∨ rSumT C.K xs H Q) rdSum := by
  rintro xs M k vs th F H Q hs rx ⟨x, l, rfl, e, q⟩ kk
  obtain ⟨v, rfl, r⟩ := rx.one'
  obtain ⟨a, ws, rfl, h1, r1⟩ := seq_at hs r e
  have e1 := r1.ofI
  subst e1
  rcases h1 with h1 | h1
  · exact .inl ⟨a, l, rfl, SqL.of h1, kk _ _ F H q hs Le.rfl (.int _)⟩
  · exact .inr ⟨a, l, rfl, SqT.of h1, kk _ _ F H q hs Le.rfl (.int _)⟩
theorem lk_max : LkA C (fun xs H Q => rMax C.K xs H Q ∨ rMaxT C.K xs H Q) rdMax := by
  rintro xs M k vs th F H Q hs rx ⟨x, l, rfl, e, hne, q⟩ kk
  obtain ⟨v, rfl, r⟩ := rx.one'
  obtain ⟨a, ws, rfl, h1, r1⟩ := seq_at hs r e
  have e1 := r1.ofI
  subst e1
  have fin : ∀ m, m ∈ l → (∀ y ∈ l, y ≤ m) → Q (.int m) H := fun m h2 h3 => by
    rw [lmax_of h2 h3]
    exact kk _ _ F H q hs Le.rfl (.int _)
  have hl : 0 < l.length := List.length_pos_iff.mpr hne
  rcases h1 with h1 | h1
  · exact .inl ⟨a, l, rfl, SqL.of h1, hl, fin⟩
  · exact .inr ⟨a, l, rfl, SqT.of h1, hl, fin⟩
theorem lk_min : LkA C (rMin C.K) rdMin := by
  rintro xs M k vs th F H Q hs rx ⟨x, l, rfl, e, hne, q⟩ kk
  obtain ⟨v, rfl, r⟩ := rx.one'
  obtain ⟨a, ws, rfl, h1, r1⟩ := lst_at hs r e
  have e1 := r1.ofI
  subst e1
  exact ⟨a, l, rfl, SqL.of h1, List.length_pos_iff.mpr hne, fun m h2 h3 => by
    rw [lmin_of h2 h3]
    exact kk _ _ F H q hs Le.rfl (.int _)⟩
theorem lk_max2 : LkA C (fun xs H Q => ∃ i j, xs = [V.int i, V.int j] ∧ Q (V.int (if j > i then j else i)) H) rdMax2 := by
  rintro xs M k vs th F H Q hs rx ⟨i, j, rfl, q⟩ kk
  obtain ⟨v, w, rfl, r, r2⟩ := rx.two'
  cases r
  cases r2
  exact ⟨i, j, rfl, kk _ _ F H q hs Le.rfl (.int _)⟩
theorem lk_all : LkA C (rAll C.K) rdAll := by
  rintro xs M k vs th F H Q hs rx ⟨x, l, rfl, e, q⟩ kk
  obtain ⟨v, rfl, r⟩ := rx.one'
  obtain ⟨a, ws, rfl, h1, r1⟩ := lst_at hs r e
  have e1 := r1.ofB
  subst e1
  exact ⟨a, l, rfl, SqL.of h1, kk _ _ F H q hs Le.rfl (.bl _)⟩
theorem lk_tup : LkA C (fun xs H Q => ∃ p ys, xs = [V.ref p] ∧ ((SqL C.K H p ys ∧ ∀ l, H l = none → Q (V.ref l) (upd H l (.tup ys))) ∨ (SqT C.K H p ys ∧ Q (V.ref p) H))) rdTup := by
  rintro xs M k vs th F H Q hs rx ⟨x, ys, rfl, e, q⟩ kk
  obtain ⟨v, rfl, r⟩ := rx.one'
  obtain ⟨a, ws, rfl, h1, r1⟩ := seq_at hs r e
  refine ⟨a, ws, rfl, ?_⟩
  rcases h1 with h1 | h1
  · refine .inl ⟨SqL.of h1, fun p hp => ?_⟩
    have l : Le th F th (upd F p (.tup ws)) := Le.nw (hs.ex.fr hp)
    exact kk _ _ _ _ q (hs.new hp) l (.tup upd_same (r1.mono l))
  · refine .inr ⟨SqT.of h1, ?_⟩
    cases r with
    | @tup a' vs' ds' h2 r2 =>
      cases e
      exact kk _ _ F H q hs Le.rfl (.tup h2 r2)
    | lst h2 r2 =>
      have := hs.ex _ _ h2
      rw [h1] at this
      cases this
    | ptr h2 =>
      unfold seqOf at e
      dsimp only at e
      split at e
      · rename_i ys' hm
        obtain ⟨_, vs, q2, _⟩ := hs.cell _ _ _ hm h2
        rw [h1] at q2
        cases q2
      · cases e
    | _ => cases e
theorem lk_list : LkA C (fun xs H Q => ∃ p ys, xs = [V.ref p] ∧ (SqL C.K H p ys ∨ SqT C.K H p ys) ∧ ∀ l, H l = none → Q (V.ref l) (upd H l (.lst ys))) rdList := by
  rintro xs M k vs th F H Q hs rx ⟨x, ys, rfl, e, q⟩ kk
  obtain ⟨v, rfl, r⟩ := rx.one'
  obtain ⟨a, ws, rfl, h1, r1⟩ := seq_at hs r e
  refine ⟨a, ws, rfl, h1.elim (fun z => .inl (SqL.of z)) (fun z => .inr (SqT.of z)), fun p hp => ?_⟩
  have l : Le th F th (upd F p (.lst ws)) := Le.nw (hs.ex.fr hp)
  exact kk _ _ _ _ q (hs.new hp) l (.lst upd_same (r1.mono l))
end
section
variable {X : Cx} {C : Cn} {W : WX} {a : Expr} {pos p : Pos} {es : List Expr} {ea : DA} {x : Str} {id T : String} {rv : List V → Hp → VK → Prop} {rd : RA}
theorem cb_up (l : LkA C rv rd) : ∀ σ H Q, upE C W (dCB rd ea) σ H Q → tCB rv (upA C W ea) σ H Q := fun σ H Q h => by
  obtain ⟨th, F, g, M, X, P, p, h⟩ := h
  exact p.bind h fun xs vs t1 F1 H1 M1 h1 rs l1 p1 => l xs M1 _ vs t1 F1 H1 Q p1.at_.hs rs h1 p1.opk
theorem de_cb (hc : CallR X (.builtin id) rv) (l : LkA C rv rd) (hm : X.mg x = none) (hv : bootBuiltins x = some (.builtin id)) (ha : PA X (a :: es) (upA C W ea)) (hg : Gl X x := by rfl) (hn : x ≠ "__name__" := by decide) (hdb : (x == ("__debug__" : Str)) = false := by decide)
    (he : starEach (a :: es) X.env = (false, eval a X.env) :: starEach es X.env := by rfl) (hpl : (backTo pos (starEach es X.env)).any (·.1) = false := by rfl) : PE X (.Call (.Name x p) (a :: es) [] pos) (upE C W (dCB rd ea)) :=
  pe_imp (pe_callB hc hg hm hv ha hn hdb he hpl) (cb_up l)
theorem de_ct (hc : CallR X (.type T) rv) (l : LkA C rv rd) (hm : X.mg x = none) (hv : bootBuiltins x = some (.type T)) (ha : PA X (a :: es) (upA C W ea)) (hg : Gl X x := by rfl) (hn : x ≠ "__name__" := by decide) (hdb : (x == ("__debug__" : Str)) = false := by decide)
    (he : starEach (a :: es) X.env = (false, eval a X.env) :: starEach es X.env := by rfl) (hpl : (backTo pos (starEach es X.env)).any (·.1) = false := by rfl) : PE X (.Call (.Name x p) (a :: es) [] pos) (upE C W (dCB rd ea)) :=
  pe_imp (pe_callTy hc hg hm hv ha hn hdb he hpl) (cb_up l)
variable (hm : X.mg x = none)
theorem b_len (hm : X.mg "len" = none) (ha : PA X [a] (upA C W ea)) (hK : X.K = C.K := by rfl) (hg : Gl X "len" := by rfl) (he : starEach [a] X.env = (false, eval a X.env) :: starEach [] X.env := by rfl) : PE X (.Call (.Name "len" p) [a] [] pos) (upE C W (dCB rdLen ea)) :=
  de_cb (hK ▸ call_len_seq) lk_len hm (by decide +kernel) ha hg (by decide) (by decide) he
theorem b_lenS (hm : X.mg "len" = none) (ha : PA X [a] (upA C W ea)) (hg : Gl X "len" := by rfl) (he : starEach [a] X.env = (false, eval a X.env) :: starEach [] X.env := by rfl) : PE X (.Call (.Name "len" p) [a] [] pos) (upE C W (dCB rdLenS ea)) :=
  de_cb call_len_str lk_lenS hm (by decide +kernel) ha hg (by decide) (by decide) he
theorem b_abs (hm : X.mg "abs" = none) (ha : PA X [a] (upA C W ea)) (hg : Gl X "abs" := by rfl) (he : starEach [a] X.env = (false, eval a X.env) :: starEach [] X.env := by rfl) : PE X (.Call (.Name "abs" p) [a] [] pos) (upE C W (dCB rdAbs ea)) :=
  de_cb call_abs lk_abs hm (by decide +kernel) ha hg (by decide) (by decide) he
theorem b_int (hm : X.mg "int" = none) (ha : PA X [a] (upA C W ea)) (hg : Gl X "int" := by rfl) (he : starEach [a] X.env = (false, eval a X.env) :: starEach [] X.env := by rfl) : PE X (.Call (.Name "int" p) [a] [] pos) (upE C W (dCB rdInt ea)) :=
  de_ct call_int1 lk_int hm (by decide +kernel) ha hg (by decide) (by decide) he
theorem b_sum (hc : X.calm = true) (hm : X.mg "sum" = none) (ha : PA X [a] (upA C W ea)) (hK : X.K = C.K := by rfl) (hg : Gl X "sum" := by rfl) (he : starEach [a] X.env = (false, eval a X.env) :: starEach [] X.env := by rfl) : PE X (.Call (.Name "sum" p) [a] [] pos) (upE C W (dCB rdSum ea)) :=
  de_cb (hK ▸ CallR.or (cr_sum hc) (cr_sumT hc)) lk_sum hm (by decide +kernel) ha hg (by decide) (by decide) he
theorem b_max (hc : X.calm = true) (hm : X.mg "max" = none) (ha : PA X [a] (upA C W ea)) (hK : X.K = C.K := by rfl) (hg : Gl X "max" := by rfl) (he : starEach [a] X.env = (false, eval a X.env) :: starEach [] X.env := by rfl) : PE X (.Call (.Name "max" p) [a] [] pos) (upE C W (dCB rdMax ea)) :=
  de_cb (hK ▸ CallR.or (cr_max hc) (cr_maxT hc)) lk_max hm (by decide +kernel) ha hg (by decide) (by decide) he
theorem b_min (hc : X.calm = true) (hm : X.mg "min" = none) (ha : PA X [a] (upA C W ea)) (hK : X.K = C.K := by rfl) (hg : Gl X "min" := by rfl) (he : starEach [a] X.env = (false, eval a X.env) :: starEach [] X.env := by rfl) : PE X (.Call (.Name "min" p) [a] [] pos) (upE C W (dCB rdMin ea)) :=
  de_cb (hK ▸ cr_min hc) lk_min hm (by decide +kernel) ha hg (by decide) (by decide) he
theorem b_max2 {b : Expr} (hc : X.calm = true) (hm : X.mg "max" = none) (ha : PA X [a, b] (upA C W ea)) (hg : Gl X "max" := by rfl) (he : starEach [a, b] X.env = (false, eval a X.env) :: starEach [b] X.env := by rfl) (hpl : (backTo pos (starEach [b] X.env)).any (·.1) = false := by rfl) : PE X (.Call (.Name "max" p) [a, b] [] pos) (upE C W (dCB rdMax2 ea)) :=
  de_cb (call_max2 hc) lk_max2 hm (by decide +kernel) ha hg (by decide) (by decide) he hpl
theorem b_all (hc : X.calm = true) (hm : X.mg "all" = none) (ha : PA X [a] (upA C W ea)) (hK : X.K = C.K := by rfl) (hg : Gl X "all" := by rfl) (he : starEach [a] X.env = (false, eval a X.env) :: starEach [] X.env := by rfl) : PE X (.Call (.Name "all" p) [a] [] pos) (upE C W (dCB rdAll ea)) :=
  de_cb (hK ▸ cr_all hc) lk_all hm (by decide +kernel) ha hg (by decide) (by decide) he
theorem b_tup (hm : X.mg "tuple" = none) (ha : PA X [a] (upA C W ea)) (hK : X.K = C.K := by rfl) (hg : Gl X "tuple" := by rfl) (he : starEach [a] X.env = (false, eval a X.env) :: starEach [] X.env := by rfl) : PE X (.Call (.Name "tuple" p) [a] [] pos) (upE C W (dCB rdTup ea)) :=
  de_ct (hK ▸ call_tuple_of) lk_tup hm (by decide +kernel) ha hg (by decide) (by decide) he
theorem b_list (hm : X.mg "list" = none) (ha : PA X [a] (upA C W ea)) (hK : X.K = C.K := by rfl) (hg : Gl X "list" := by rfl) (he : starEach [a] X.env = (false, eval a X.env) :: starEach [] X.env := by rfl) : PE X (.Call (.Name "list" p) [a] [] pos) (upE C W (dCB rdList ea)) :=
  de_ct (hK ▸ call_list_of) lk_list hm (by decide +kernel) ha hg (by decide) (by decide) he
end
end PD

/-! PD: statements, loops, comprehensions. -/
namespace PD
open PySem PySem.Spec PyProof.Rows L2

structure DN where
  nx : En → MS → Prop
  rt : D → MS → Prop
  bk : En → MS → Prop
  ct : En → MS → Prop
  ex : Exn → En → MS → Prop
abbrev DS := En → MS → DN → Prop

structure LkN (C : Cn) (W : WX) (De : Ends) (th : List Addr) (F : Hp) (N : DN) : Prop where
  nx : ∀ (g : En) (M : MS) (σ : L2.St) (th' : List Addr) (F' H' : Hp), N.nx g M → At C th' F' H' σ g M → Le th F th' F' → De.nx σ H'
  rt : ∀ (y : D) (M : MS) (v : V) (th' : List Addr) (F' H' : Hp), N.rt y M → Hs C th' F' H' M → Le th F th' F' → Rep C th' F' v y → De.rt v H'
  bk : ∀ (g : En) (M : MS) (σ : L2.St) (th' : List Addr) (F' H' : Hp), N.bk g M → At C th' F' H' σ g M → Le th F th' F' → De.bk σ H'
  ct : ∀ (g : En) (M : MS) (σ : L2.St) (th' : List Addr) (F' H' : Hp), N.ct g M → At C th' F' H' σ g M → Le th F th' F' → De.ct σ H'
  ex : ∀ (e : Exn) (g : En) (M : MS) (σ : L2.St) (th' : List Addr) (F' H' : Hp) (cls : Value) (dd : Option Addr), N.ex e g M → At C th' F' H' σ g M → Le th F th' F' → ExcAt C th' F' H' e cls dd → W cls dd σ H'
def upS (C : Cn) (W : WX) (d : DS) : TS := fun D σ H => ∃ th F g M N, At C th F H σ g M ∧ LkN C W D th F N ∧ d g M N
def upG (C : Cn) (d : D → En → (En → Prop) → Prop) : TG := fun v σ H Q => ∃ th F g M y P, At C th F H σ g M ∧ Rep C th F v y ∧ d y g P ∧ ∀ g' σ', P g' → Sl C th F σ' g' → Q σ' H
def upGs (C : Cn) (d : List D → En → (En → Prop) → Prop) : TGs := fun vs σ H Q => ∃ th F g M ys P, At C th F H σ g M ∧ RepL C th F vs ys ∧ d ys g P ∧ ∀ g' σ', P g' → Sl C th F σ' g' → Q σ' H
section
variable {C : Cn} {W : WX} {De : Ends} {th th' : List Addr} {F F' H H' : Hp} {N : DN} {σ : L2.St} {g : En} {M : MS}
theorem LkN.mono (k : LkN C W De th F N) (l : Le th F th' F') : LkN C W De th' F' N :=
  ⟨fun a b c d e f p q r => k.nx a b c d e f p q (l.tr r), fun a b c d e f p q r s => k.rt a b c d e f p q (l.tr r) s, fun a b c d e f p q r => k.bk a b c d e f p q (l.tr r), fun a b c d e f p q r => k.ct a b c d e f p q (l.tr r),
    fun a b c d e f h i j p q r s => k.ex a b c d e f h i j p q (l.tr r) s⟩
/-- an expression within a statement -/
theorem LkN.pk {V' α : Type} {rel : List Addr → Hp → V' → α → Prop} {Q : V' → Hp → Prop} {P : α → MS → Prop} (k : LkN C W De th F N) (a : At C th F H σ g M)
    (ok : ∀ (y : α) (M' : MS) (v : V') (th' : List Addr) (F' H' : Hp), P y M' → At C th' F' H' σ g M' → Le th F th' F' → rel th' F' v y → Q v H') : Pk C W rel σ Q th F H g M (fun e M' => N.ex e g M') P :=
  ⟨a, fun y M' v th' F' H' p h l r => ok y M' v th' F' H' p ⟨h, a.sl.mono l⟩ l r, fun e M' th' F' H' cls dd p h l x => k.ex e g M' σ th' F' H' cls dd p ⟨h, a.sl.mono l⟩ l x⟩
theorem Pk.mk_up {V' α : Type} {rel : List Addr → Hp → V' → α → Prop} {Q : V' → Hp → Prop} {P : α → MS → Prop} {X : EK} {d : En → MS → EK → (α → MS → Prop) → Prop} (p : Pk C W rel σ Q th F H g M X P) (h : d g M X P) : Up C W rel d σ H Q := ⟨th, F, g, M, X, P, p, h⟩
end

def sNx : DS := fun g M N => N.nx g M
def sSeq (a b : DS) : DS := fun g M N => a g M { N with nx := fun g' M' => b g' M' N }
def sDrop (d : DE) : DS := fun g M N => d g M (fun e M' => N.ex e g M') fun _ M' => N.nx g M'
def sRet (d : DE) : DS := fun g M N => d g M (fun e M' => N.ex e g M') fun y M' => N.rt y M'
def sRetN : DS := fun _ M N => N.rt .non M
def sIf (c : DT) (a b : DS) : DS := fun g M N => c g M (fun e M' => N.ex e g M') fun k M' => if k = true then a g M' N else b g M' N
def sBrk : DS := fun g M N => N.bk g M
def sCnt : DS := fun g M N => N.ct g M
def sAsg (d : DE) (t : D → En → (En → Prop) → Prop) : DS := fun g M N => d g M (fun e M' => N.ex e g M') fun y M' => t y g fun g' => N.nx g' M'
def gN (i : Nat) : D → En → (En → Prop) → Prop := fun y g k => k (g.set i (some y))
def gsNil : List D → En → (En → Prop) → Prop := fun ys g k => ys = [] ∧ k g
def gsCons (t : D → En → (En → Prop) → Prop) (u : List D → En → (En → Prop) → Prop) : List D → En → (En → Prop) → Prop := fun ys g k => ∃ y r, ys = y :: r ∧ t y g fun g' => u r g' k
def gT (n : Nat) (t : List D → En → (En → Prop) → Prop) : D → En → (En → Prop) → Prop := fun y g k => ∃ ys, y = .tup ys ∧ ys.length = n ∧ t ys g k
def sPar (i j : Nat) (d : DA) : DS := fun g M N => d g M (fun e M' => N.ex e g M') fun ys M' => ∃ y z, ys = [y, z] ∧ N.nx ((g.set i (some y)).set j (some z)) M'
def sAug (i : Nat) (r : D → D → MS → (D → Prop) → Prop) (d : DE) : DS := fun g M N => ∃ x, g[i]? = some (some x) ∧ d g M (fun e M' => N.ex e g M') fun y M' => r x y M' fun z => N.nx (g.set i (some z)) M'
def sWhile (c : DT) (b : DS) : DS := fun g M N => ∃ Inv : Nat → En → MS → Prop, (∃ m, Inv m g M) ∧ ∀ m g M, Inv m g M → c g M (fun e M' => N.ex e g M') fun k M' =>
  if k = true then b g M' { N with nx := fun g' M'' => ∃ m', m' < m ∧ Inv m' g' M'', ct := fun g' M'' => ∃ m', m' < m ∧ Inv m' g' M'', bk := N.nx } else N.nx g M'

section
variable {X : Cx} {C : Cn} {W : WX} {st : Stmt} {sts rest : List Stmt} {a b c e : Expr} {da db : DE} {ds dt : DS} {ta : DT} {pos : Pos} {es : List Expr} {ea : DA}
theorem ss_nil : PSs X [] (upS C W sNx) := pss_imp pss_nil fun D σ H h => by
  obtain ⟨th, F, g, M, N, a, k, h⟩ := h
  exact k.nx g M σ th F H h a Le.rfl
theorem ss_cons (h1 : PS X st (upS C W ds)) (h2 : PSs X rest (upS C W dt)) : PSs X (st :: rest) (upS C W (sSeq ds dt)) := pss_imp (pss_cons h1 h2) fun D σ H h => by
  obtain ⟨th, F, g, M, N, a, k, h⟩ := h
  refine ⟨th, F, g, M, { N with nx := fun g' M' => dt g' M' N }, a, ⟨fun g' M' σ' th' F' H' p q l => ⟨th', F', g', M', N, q, k.mono l, p⟩, k.rt, k.bk, k.ct, k.ex⟩, h⟩
theorem ss_one (h1 : PS X st (upS C W ds)) : PSs X [st] (upS C W ds) := pss_one h1
theorem s_pass : PS X (.Pass pos) (upS C W sNx) := ps_imp ps_pass fun D σ H h => by
  obtain ⟨th, F, g, M, N, a, k, h⟩ := h
  exact k.nx g M σ th F H h a Le.rfl
theorem s_expr (he : PE X e (upE C W da)) (hs : swapsWith e none pos.line X.env = pure false := by rfl) : PS X (.Expr e pos) (upS C W (sDrop da)) := ps_imp (ps_expr he hs) fun D σ H h => by
  obtain ⟨th, F, g, M, N, a, k, h⟩ := h
  exact (k.pk a fun y M' v th' F' H' p h l r => k.nx g M' σ th' F' H' p h l).mk_up h
theorem s_ret (he : PE X e (upE C W da)) : PS X (.Return (some e) pos) (upS C W (sRet da)) := ps_imp (ps_ret he) fun D σ H h => by
  obtain ⟨th, F, g, M, N, a, k, h⟩ := h
  exact (k.pk a fun y M' v th' F' H' p h l r => k.rt y M' v th' F' H' p h.hs l r).mk_up h
theorem s_retN : PS X (.Return none pos) (upS C W sRetN) := ps_imp ps_retN fun D σ H h => by
  obtain ⟨th, F, g, M, N, a, k, h⟩ := h
  exact k.rt _ M .non th F H h a.hs Le.rfl .non
theorem s_if {xs ys : List Stmt} (hc : PT X c (upT C W ta)) (h1 : PSs X xs (upS C W ds)) (h2 : PSs X ys (upS C W dt)) : PS X (.If c xs ys pos) (upS C W (sIf ta ds dt)) := ps_imp (ps_if hc h1 h2) fun D σ H h => by
  obtain ⟨th, F, g, M, N, a, k, h⟩ := h
  refine (k.pk (rel := rB) a fun y M' v th' F' H' p h l r => ?_).mk_up h
  cases r
  cases y with
  | true => exact ⟨th', F', g, M', N, h, k.mono l, p⟩
  | false => exact ⟨th', F', g, M', N, h, k.mono l, p⟩
theorem s_brk : PS X (.Break pos) (upS C W sBrk) := ps_imp ps_break fun D σ H h => by
  obtain ⟨th, F, g, M, N, a, k, h⟩ := h
  exact k.bk g M σ th F H h a Le.rfl
theorem s_cnt : PS X (.Continue pos) (upS C W sCnt) := ps_imp ps_continue fun D σ H h => by
  obtain ⟨th, F, g, M, N, a, k, h⟩ := h
  exact k.ct g M σ th F H h a Le.rfl
theorem g_name {i : Nat} {x : Str} (hN : X.N.Nodup) (hi : X.N[i]? = some x := by rfl) (hx : Loc X.env.scope x := by first | exact Or.inl rfl | exact Or.inr rfl) (hf : X.fn x = true ∨ X.env.scope.names.lookup x = some .local := by first | exact .inl rfl | exact .inr rfl) : PG X (.Name x pos) (upG C (gN i)) :=
  ⟨fun pins s σ H v u Q I r h => (pg_name hN hi hx hf).run pins s σ H v u Q I r (by
    obtain ⟨th, F, g, M, y, P, a, ry, q, k⟩ := h
    exact k _ _ q (a.sl.set i ry))⟩
theorem gs_nil : PGs X [] (upGs C gsNil) := ⟨fun pins s σ H vs us Q I r h => pgs_nil.run pins s σ H vs us Q I r (by
    obtain ⟨th, F, g, M, ys, P, a, ry, ⟨e, q⟩, k⟩ := h
    subst e
    exact ⟨ry.nil', k g σ q a.sl⟩)⟩
theorem gs_cons {t : D → En → (En → Prop) → Prop} {u : List D → En → (En → Prop) → Prop} (h1 : PG X e (upG C t)) (h2 : PGs X es (upGs C u)) (hs : (assignEach (e :: es) X.env).map (·.2) = assign e X.env :: (assignEach es X.env).map (·.2) := by rfl) : PGs X (e :: es) (upGs C (gsCons t u)) :=
  ⟨fun pins s σ H vs us Q I r h => (pgs_cons h1 h2 hs).run pins s σ H vs us Q I r (by
    obtain ⟨th, F, g, M, ys, P, a, ry, ⟨y, rs, e, q⟩, k⟩ := h
    subst e
    obtain ⟨v, ws, rfl, r1, r2⟩ := ry.cons'
    exact ⟨v, ws, rfl, th, F, g, M, y, _, a, r1, q, fun g' σ' q' s' => ⟨th, F, g', M, rs, P, ⟨a.hs, s'⟩, r2, q', k⟩⟩)⟩
theorem g_tup {n k : Nat} {u : List D → En → (En → Prop) → Prop} (hc : X.calm = true) (h : PGs X es (upGs C u)) (hn : (assignEach es X.env).length = n := by rfl) (hst : (assignEach es X.env).findIdx? (·.1) = none := by rfl) (hK : X.K = C.K := by rfl) : PG X (.Tuple es k pos) (upG C (gT n u)) :=
  ⟨fun pins s σ H v w Q I r h' => (pg_tup hc h hn hst).run pins s σ H v w Q I r (by
    obtain ⟨th, F, g, M, y, P, a, ry, ⟨ys, e, l, q⟩, k⟩ := h'
    subst e
    cases ry with
    | @tup ad vs _ hf rs => exact ⟨ad, vs, rfl, SqT.of (a.hs.ex _ _ hf), (RepL.len rs).trans l, th, F, g, M, ys, P, a, rs, q, k⟩)⟩
theorem s_set {i : Nat} {x : Str} {pos' : Pos} (hN : X.N.Nodup) (he : PE X e (upE C W da)) (hi : X.N[i]? = some x := by rfl) (hx : Loc X.env.scope x := by first | exact Or.inl rfl | exact Or.inr rfl) (hs : swapsWith e (some (.Name x pos')) pos.line X.env = pure false := by rfl)
    (hf : X.fn x = true ∨ X.env.scope.names.lookup x = some .local := by first | exact .inl rfl | exact .inr rfl) : PS X (.Assign [.Name x pos'] e pos) (upS C W (sAsg da (gN i))) := ps_imp (ps_set hN hi hx he hs hf) fun D σ H h => by
  obtain ⟨th, F, g, M, N, a, k, h⟩ := h
  exact (k.pk (rel := rD C) (P := fun y M' => N.nx (g.set i (some y)) M') a fun y M' v th' F' H' p h l r => k.nx _ M' _ th' F' H' p ⟨h.hs, h.sl.set i r⟩ l).mk_up h
theorem s_asg {tg : Expr} {t : D → En → (En → Prop) → Prop} (he : PE X e (upE C W da)) (hg : PG X tg (upG C t)) (hs : swapsWithSole [tg] e pos.line X.env = pure false := by rfl) (hw : swappedStores [tg] e X.env = pure none := by rfl)
    (h1 : (assignEach [tg] X.env).map (·.2) = [assign tg X.env] := by rfl) : PS X (.Assign [tg] e pos) (upS C W (sAsg da t)) := ps_imp (ps_asg he hg hs hw h1) fun D σ H h => by
  obtain ⟨th, F, g, M, N, a, k, h⟩ := h
  exact (k.pk a fun y M' v th' F' H' p h l r => ⟨th', F', g, M', y, _, h, r, p, fun g' σ' q s' => k.nx g' M' σ' th' F' H' q ⟨h.hs, s'⟩ l⟩).mk_up h
theorem s_par {i j : Nat} {x y : Str} {px py pt : Pos} {kt k2 : Nat} {pt2 : Pos} (hc : X.calm = true) (hN : X.N.Nodup) (ha : PA X [a, b] (upA C W ea)) (hi : X.N[i]? = some x := by rfl) (hj : X.N[j]? = some y := by rfl) (hij : i ≠ j := by decide)
    (hx : X.env.scope.names.lookup x = some .local := by rfl) (hy : X.env.scope.names.lookup y = some .local := by rfl)
    (hw : swappedStores [.Tuple [.Name x px, .Name y py] kt pt] (.Tuple [a, b] k2 pt2) X.env = pure (some [x, y]) := by rfl)
    (hs : swapsWithSole [.Tuple [.Name x px, .Name y py] kt pt] (.Tuple [a, b] k2 pt2) pos.line X.env = pure false := by rfl) :
    PS X (.Assign [.Tuple [.Name x px, .Name y py] kt pt] (.Tuple [a, b] k2 pt2) pos) (upS C W (sPar i j ea)) := ps_imp (ps_par hc hN hi hj hij hx hy ha hw hs) fun D σ H h => by
  obtain ⟨th, F, g, M, N, a, k, h⟩ := h
  refine (k.pk (rel := rL C) a fun ys M' v th' F' H' p h l r => ?_).mk_up h
  obtain ⟨y, z, e, q⟩ := p
  subst e
  obtain ⟨v, w, rfl, r1, r2⟩ := RepL.two' r
  exact ⟨v, w, rfl, k.nx _ M' _ th' F' H' q ⟨h.hs, (h.sl.set i r1).set j r2⟩ l⟩
theorem s_while {body : List Stmt} (hp : PassesOwn (model X.prog X.w) X.A X.env X.xe) (hc : PT X c (upT C W ta)) (hb : PSs X body (upS C W ds)) : PS X (.While c body [] pos) (upS C W (sWhile ta ds)) := ps_imp (ps_while hp hc hb) fun D σ H h => by
  obtain ⟨th, F, g, M, N, a, k, Inv, ⟨m0, i0⟩, turn⟩ := h
  refine ⟨fun m σ' H' => ∃ th' F' g' M', At C th' F' H' σ' g' M' ∧ Le th F th' F' ∧ Inv m g' M', ⟨m0, th, F, g, M, a, Le.rfl, i0⟩, ?_⟩
  rintro m σ1 H1 ⟨t1, F1, g1, M1, a1, l1, i1⟩
  refine ((k.mono l1).pk (rel := rB) a1 fun y M' v th' F' H' p h l r => ?_).mk_up (turn m g1 M1 i1)
  cases r
  cases y with
  | true =>
    refine ⟨fun σ2 H2 => ∃ m', m' < m ∧ ∃ th' F' g' M', At C th' F' H2 σ2 g' M' ∧ Le th F th' F' ∧ Inv m' g' M', fun σ2 H2 q => q, ?_⟩
    have k1 := k.mono (l1.tr l)
    exact ⟨th', F', g1, M', { N with nx := fun g' M'' => ∃ m', m' < m ∧ Inv m' g' M'', ct := fun g' M'' => ∃ m', m' < m ∧ Inv m' g' M'', bk := N.nx }, h, ⟨fun g2 M2 σ2 t2 F2 H2 q a2 l2 => (let ⟨m', hm, q⟩ := q; ⟨m', hm, t2, F2, g2, M2, a2, (l1.tr l).tr l2, q⟩), k1.rt, fun g2 M2 σ2 t2 F2 H2 q a2 l2 => k1.nx g2 M2 σ2 t2 F2 H2 q a2 l2,
      fun g2 M2 σ2 t2 F2 H2 q a2 l2 => (let ⟨m', hm, q⟩ := q; ⟨m', hm, t2, F2, g2, M2, a2, (l1.tr l).tr l2, q⟩), k1.ex⟩, p⟩
  | false => exact k.nx g1 M' σ1 th' F' H' p h (l1.tr l)
end

/-! ### what is walked -/
abbrev DIt := En → MS → EK → (List D → MS → Prop) → Prop
/-- J gives the items ys, whatever comes behind F -/
def Giv (C : Cn) (th : List Addr) (F : Hp) (J : It) (ys : List D) : Prop := ∃ (G : Hp → Prop) (Y : Nat → Hp → V → Hp → Prop), Walk J ys.length G Y ∧ (∀ H, Ex F H → G H) ∧
  ∀ (i : Nat) (x : V) (H H' : Hp) (th1 : List Addr) (F1 : Hp) (M1 : MS), i < ys.length → Y i H x H' → Hs C th1 F1 H M1 → Le th F th1 F1 → ∃ F2 d, Hs C th1 F2 H' M1 ∧ Le th1 F1 th1 F2 ∧ ys[i]? = some d ∧ Rep C th1 F2 x d
def upI (C : Cn) (W : WX) (d : DIt) : TI := fun σ H R => ∃ th F g M X P, At C th F H σ g M ∧ d g M X P ∧
  (∀ (ys : List D) (M' : MS) (th' : List Addr) (F' H' : Hp) (J : It), P ys M' → Hs C th' F' H' M' → Le th F th' F' → Giv C th' F' J ys → R J H') ∧
  ∀ (e : Exn) (M' : MS) (th' : List Addr) (F' H' : Hp) (cls : Value) (dd : Option Addr), X e M' → Hs C th' F' H' M' → Le th F th' F' → ExcAt C th' F' H' e cls dd → W cls dd σ H'
def iSeq (d : DE) : DIt := fun g M X k => d g M X fun x M1 => ∃ ys, (x = .lst ys ∨ x = .tup ys) ∧ k ys M1
def iTp (d : DE) : DIt := fun g M X k => d g M X fun x M1 => ∃ ys, x = .tup ys ∧ k ys M1
def iLs (d : DE) : DIt := fun g M X k => d g M X fun x M1 => ∃ ys, x = .lst ys ∧ k ys M1
def iSc (d : DE) : DIt := fun g M X k => d g M X fun x M1 => ∃ l, x = .scr l ∧ k (iL l) M1
def rngL (lo : Int) (n : Nat) : List Int := (List.range n).map fun (i : Nat) => lo + (i : Int)
def iR1 (d : DA) : DIt := fun g M X k => d g M X fun xs M1 => ∃ n, xs = [.int n] ∧ -(2 ^ 60) ≤ n ∧ n < 2 ^ 60 ∧ k (iL (rngL 0 n.toNat)) M1
def iR2 (d : DA) : DIt := fun g M X k => d g M X fun xs M1 => ∃ a b, xs = [.int a, .int b] ∧ (-(2 ^ 60) ≤ a ∧ a < 2 ^ 60 ∧ -(2 ^ 60) ≤ b ∧ b < 2 ^ 60) ∧ k (iL (rngL a (b - a).toNat)) M1
section
variable {C : Cn} {th : List Addr} {F : Hp}
theorem giv_at {J : It} {xs : List V} {ys : List D} {G : Hp → Prop} (w : Walk J xs.length G (YAt xs)) (hg : ∀ H, Ex F H → G H) (r : RepL C th F xs ys) : Giv C th F J ys := by
  refine ⟨G, YAt xs, (RepL.len r) ▸ w, hg, ?_⟩
  rintro i x H H' th1 F1 M1 hi ⟨rfl, e⟩ hs l
  obtain ⟨d, e2, rd⟩ := r.getv e
  exact ⟨F1, d, hs, Le.rfl, e2, rd.mono l⟩
theorem giv_rng {lo : Int} {n : Nat} : Giv C th F (Itr lo n) (iL (rngL lo n)) := by
  have e : (iL (rngL lo n)).length = n := by unfold iL rngL; rw [List.length_map, List.length_map, List.length_range]
  have w : Walk (Itr lo n) (iL (rngL lo n)).length (fun _ => True) (YFn fun i => .int (lo + i)) := by rw [e]; exact walk_range
  refine ⟨fun _ => True, _, w, fun _ _ => trivial, ?_⟩
  rintro i x H H' th1 F1 M1 hi ⟨rfl, rfl⟩ hs l
  rw [e] at hi
  refine ⟨F1, .int (lo + i), hs, Le.rfl, ?_, .int _⟩
  unfold iL rngL
  rw [List.getElem?_map, List.getElem?_map, List.getElem?_range hi]
  rfl
end
section
variable {X : Cx} {C : Cn} {W : WX} {a b tg : Expr} {da : DE} {ea : DA} {pos p : Pos}
theorem i_lst (ha : PE X a (upE C W da)) (hK : X.K = C.K := by rfl) : PI X tg a (upI C W (iLs da)) := ⟨fun pins s σ H R I h => (pi_list ha).run pins s σ H R I (by
  obtain ⟨th, F, g, M, X', P, at_, h, ok, ex⟩ := h
  refine ⟨th, F, g, M, X', _, ⟨at_, fun x M1 v t1 F1 H1 q hs l r => ?_, ex⟩, h⟩
  obtain ⟨ys, e, q⟩ := q
  subst e
  cases r with
  | @lst ad vs _ hf rs => exact ⟨ad, rfl, ⟨vs, SqL.of (hs.ex _ _ hf)⟩, ok ys M1 t1 F1 H1 _ q hs l (giv_at walk_list (fun H e => SqL.of (e _ _ hf)) rs)⟩)⟩
theorem i_tup (ha : PE X a (upE C W da)) (hK : X.K = C.K := by rfl) : PI X tg a (upI C W (iTp da)) := ⟨fun pins s σ H R I h => (pi_tup ha).run pins s σ H R I (by
  obtain ⟨th, F, g, M, X', P, at_, h, ok, ex⟩ := h
  refine ⟨th, F, g, M, X', _, ⟨at_, fun x M1 v t1 F1 H1 q hs l r => ?_, ex⟩, h⟩
  obtain ⟨ys, e, q⟩ := q
  subst e
  cases r with
  | @tup ad vs _ hf rs => exact ⟨ad, rfl, ⟨vs, SqT.of (hs.ex _ _ hf)⟩, ok ys M1 t1 F1 H1 _ q hs l (giv_at walk_tup (fun H e => SqT.of (e _ _ hf)) rs)⟩)⟩
theorem i_scr (ha : PE X a (upE C W da)) (hK : X.K = C.K := by rfl) : PI X tg a (upI C W (iSc da)) := ⟨fun pins s σ H R I h => (pi_list ha).run pins s σ H R I (by
  obtain ⟨th, F, g, M, X', P, at_, h, ok, ex⟩ := h
  refine ⟨th, F, g, M, X', _, ⟨at_, fun x M1 v t1 F1 H1 q hs l r => ?_, ex⟩, h⟩
  obtain ⟨ys, e, q⟩ := q
  subst e
  cases r with
  | @scr ad l2 hf => exact ⟨ad, rfl, ⟨_, hK ▸ hs.ex.sl hf⟩, ok _ M1 t1 F1 H1 _ q hs l (giv_at (G := fun H => SqL X.K H ad (ys.map V.int)) walk_list (fun H e => hK ▸ e.sl hf) (RepL.iL ys))⟩)⟩
theorem i_rng1 (hm : X.mg "range" = none) (ha : PA X [a] (upA C W ea)) (hg : Gl X "range" := by rfl) (hs : starEach [a] X.env = [(false, eval a X.env)] := by rfl) : PI X tg (.Call (.Name "range" p) [a] [] pos) (upI C W (iR1 ea)) := ⟨fun pins s σ H R I h => (pi_range1 hg hm ha hs).run pins s σ H R I (by
  obtain ⟨th, F, g, M, X', P, at_, h, ok, ex⟩ := h
  refine ⟨th, F, g, M, X', _, ⟨at_, fun xs M1 v t1 F1 H1 q hs l r => ?_, ex⟩, h⟩
  obtain ⟨n, e, h1, h2, q⟩ := q
  subst e
  obtain ⟨v0, e0, r0⟩ := RepL.one' r
  subst e0
  cases r0
  exact ⟨n, rfl, by omega, by omega, ok _ M1 t1 F1 H1 _ q hs l giv_rng⟩)⟩
theorem i_rng2 (hm : X.mg "range" = none) (ha : PA X [a, b] (upA C W ea)) (hg : Gl X "range" := by rfl) (hs : starEach [a, b] X.env = [(false, eval a X.env), (false, eval b X.env)] := by rfl) (hs2 : starEach [b] X.env = [(false, eval b X.env)] := by rfl) : PI X tg (.Call (.Name "range" p) [a, b] [] pos) (upI C W (iR2 ea)) := ⟨fun pins s σ H R I h => (pi_range2 hg hm ha hs hs2).run pins s σ H R I (by
  obtain ⟨th, F, g, M, X', P, at_, h, ok, ex⟩ := h
  refine ⟨th, F, g, M, X', _, ⟨at_, fun xs M1 v t1 F1 H1 q hs l r => ?_, ex⟩, h⟩
  obtain ⟨n, m, e, ⟨h1, h2, h3, h4⟩, q⟩ := q
  subst e
  obtain ⟨v, w, rfl, r, r2⟩ := RepL.two' r
  cases r
  cases r2
  exact ⟨n, m, rfl, ⟨by omega, by omega, by omega, by omega⟩, ok _ M1 t1 F1 H1 _ q hs l giv_rng⟩)⟩
end

/-! ### for -/
def sFor (di : DIt) (dg : D → En → (En → Prop) → Prop) (b : DS) : DS := fun g M N => di g M (fun e M' => N.ex e g M') fun ys M' => ∃ Inv : Nat → En → MS → Prop, Inv 0 g M' ∧
  (∀ (i : Nat) (y : D) (g1 : En) (M1 : MS), ys[i]? = some y → Inv i g1 M1 → dg y g1 fun g2 => b g2 M1 { N with nx := Inv (i + 1), ct := Inv (i + 1), bk := N.nx }) ∧ ∀ g1 M1, Inv ys.length g1 M1 → N.nx g1 M1
section
variable {X : Cx} {C : Cn} {W : WX} {tg iter : Expr} {di : DIt} {dg : D → En → (En → Prop) → Prop} {db : DS} {body : List Stmt} {pos : Pos}
theorem s_for (hp : PassesOwn (model X.prog X.w) X.A X.env X.xe) (hc : X.calm = true) (hi : PI X tg iter (upI C W di)) (hg : PG X tg (upG C dg)) (hb : PSs X body (upS C W db)) (hs : ∀ x, foldedSetIterable iter X.env x = pure x := by intro _; rfl) :
    PS X (.For tg iter body [] pos) (upS C W (sFor di dg db)) := ps_imp (ps_for hp hc hi hg hb hs) fun D σ H h => by
  obtain ⟨th, F, g, M, N, a, k, h⟩ := h
  refine ⟨th, F, g, M, _, _, a, h, fun ys M' t1 F1 H1 J q hs1 l1 giv => ?_, fun e M' t1 F1 H1 cls dd q hs1 l1 x => k.ex e g M' σ t1 F1 H1 cls dd q ⟨hs1, a.sl.mono l1⟩ l1 x⟩
  obtain ⟨Inv, i0, turn, done⟩ := q
  obtain ⟨G, Y, w, hG, hY⟩ := giv
  refine for_it w (fun i σ' H' => ∃ th' F' g' M', At C th' F' H' σ' g' M' ∧ Le t1 F1 th' F' ∧ Inv i g' M') ⟨t1, F1, g, M', ⟨hs1, a.sl.mono l1⟩, Le.rfl, i0⟩ (fun i σ' H' _ ⟨_, _, _, _, a2, l2, _⟩ => hG H' (l2.ex.tr a2.hs.ex)) ?_ ?_
  · rintro i x σ2 H2 H3 hi ⟨t2, F2, g2, M2, a2, l2, i2⟩ y
    obtain ⟨F3, d, hs3, l3, ed, rd⟩ := hY i x H2 H3 t2 F2 M2 hi y a2.hs l2
    have l4 := l2.tr l3
    refine ⟨t2, F3, g2, M2, d, _, ⟨hs3, a2.sl.mono l3⟩, rd, turn i d g2 M2 ed i2, fun g4 σ4 q4 s4 => ?_⟩
    have k4 := k.mono (l1.tr l4)
    exact ⟨t2, F3, g4, M2, { N with nx := Inv (i + 1), ct := Inv (i + 1), bk := N.nx }, ⟨hs3, s4⟩, ⟨fun g5 M5 σ5 t5 F5 H5 q5 a5 l5 => ⟨t5, F5, g5, M5, a5, l4.tr l5, q5⟩, k4.rt, k4.nx, fun g5 M5 σ5 t5 F5 H5 q5 a5 l5 => ⟨t5, F5, g5, M5, a5, l4.tr l5, q5⟩, k4.ex⟩, q4⟩
  · rintro σ2 H2 ⟨t2, F2, g2, M2, a2, l2, i2⟩
    exact k.nx g2 M2 σ2 t2 F2 H2 (done g2 M2 i2) a2 (l1.tr l2)
end
end PD

/-! PD: comprehensions, own lists, calls of defs. -/
namespace PD
open PySem PySem.Spec PyProof.Rows L2

/-! ### the last cell -/
section
variable {C : Cn} {th t0 : List Addr} {F H : Hp} {M : MS} {p : Addr}
theorem last_th {c : Cell} (h : Hs C th F H (M ++ [c])) : ∃ t0 p, th = t0 ++ [p] ∧ t0.length = M.length := by
  obtain ⟨t0, t1, e, l⟩ := Hs.drop h
  have l2 : th.length = M.length + 1 := by rw [h.len, List.length_append]; rfl
  rw [e, List.length_append, l] at l2
  cases t1 with
  | nil => simp at l2
  | cons p r =>
    cases r with
    | nil => exact ⟨t0, p, e, l⟩
    | cons q r => simp at l2
theorem RepF.cut : ∀ {gs : List (Str × V)} {fs : List (Str × D)}, (∀ d ∈ fs, Cln d.2) → RepF C th F gs fs → RepF C t0 F gs fs
  | [], [], _, _ => trivial
  | (_, _) :: _, (_, _) :: _, k, ⟨e, r1, r2⟩ => ⟨e, Rep.cut (k _ List.mem_cons_self) r1, RepF.cut (fun d hd => k d (List.mem_cons_of_mem _ hd)) r2⟩
  | [], _ :: _, _, h => h.elim
  | _ :: _, [], _, h => h.elim
theorem CellAt.cut {a : Addr} : ∀ {c : Cell}, (∀ xs, c = .lst xs → ∀ d ∈ xs, Cln d) → (∀ k fs, c = .ins k fs → ∀ d ∈ fs, Cln d.2) → CellAt C th F H a c → CellAt C t0 F H a c
  | .dead, _, _, h => h
  | .lst xs, k, _, ⟨n, vs, h, r⟩ => ⟨n, vs, h, RepL.cut (k xs rfl) r⟩
  | .ins c fs, _, k, ⟨n, dx, gs, h, r⟩ => ⟨n, dx, gs, h, RepF.cut (k c fs rfl) r⟩
  | .rng, _, _, h => h
/-- a cell's content names only cells ahead of place n -/
inductive Bel (n : Nat) : D → Prop
  | cln {d : D} : Cln d → Bel n d
  | ptr {k : Nat} : k < n → Bel n (.ptr k)
  | lst {ds : List D} : (∀ d ∈ ds, Bel n d) → Bel n (.lst ds)
  | tup {ds : List D} : (∀ d ∈ ds, Bel n d) → Bel n (.tup ds)
end
section
variable {C : Cn} {th t0 : List Addr} {F H : Hp} {M : MS} {p : Addr}
theorem get_pre (k : Nat) (a : Addr) (e : t0[k]? = some a) : (t0 ++ [p])[k]? = some a := by
  rw [List.getElem?_append_left (List.getElem?_eq_some_iff.mp e).1]
  exact e
/-- a rep over t0 ++ [p] of a thing that doesn't name the last cell, by address -/
theorem Rep.back : ∀ {n : Nat} {v : V} {d : D}, Bel n d → n ≤ t0.length → Rep C (t0 ++ [p]) F v d → Rep C t0 F v d := by
  have all : ∀ {n : Nat} {ds : List D} {vs : List V}, (∀ d ∈ ds, ∀ v, Rep C (t0 ++ [p]) F v d → Rep C t0 F v d) → RepL C (t0 ++ [p]) F vs ds → RepL C t0 F vs ds := by
    intro n ds
    induction ds with
    | nil => intro vs _ r; rw [r.nil']; exact .nil
    | cons d ds ih =>
      intro vs k r
      obtain ⟨v, ws, rfl, h, t⟩ := r.cons'
      exact .cons (k d List.mem_cons_self v h) (ih (fun e he => k e (List.mem_cons_of_mem _ he)) t)
  intro n v d b hn
  induction b generalizing v with
  | cln c => exact fun r => Rep.cut c r
  | ptr hk =>
    intro r
    cases r with
    | ptr e =>
      rw [List.getElem?_append_left (by omega)] at e
      exact .ptr e
  | lst h ih =>
    intro r
    cases r with
    | lst q r => exact .lst q (all (n := n) (fun d hd v => ih d hd (v := v)) r)
  | tup h ih =>
    intro r
    cases r with
    | tup q r => exact .tup q (all (n := n) (fun d hd v => ih d hd (v := v)) r)
end
/-- the cells name only clean things -/
def ClnC : Cell → Prop
  | .lst xs => ∀ d ∈ xs, Cln d
  | .ins _ fs => ∀ d ∈ fs, Cln d.2
  | _ => True
section
variable {C : Cn} {th t0 : List Addr} {F H : Hp} {M : MS} {p : Addr}
theorem CellAt.cutC {a : Addr} {c : Cell} (k : ClnC c) (h : CellAt C th F H a c) : CellAt C t0 F H a c :=
  h.cut (fun xs e => by subst e; exact k) fun _ fs e => by subst e; exact k
/-- the last cells are forgotten; the others name no cell -/
theorem Hs.pop {L : MS} (h : Hs C th F H (M ++ L)) (k : ∀ c ∈ M, ClnC c) : Hs C (th.take M.length) F H M := by
  have hl : (th.take M.length).length = M.length := by
    rw [List.length_take, h.len, List.length_append]; omega
  refine ⟨h.ex, hl, List.Nodup.sublist (List.take_sublist _ _) h.nd, fun j c a e1 e2 => ?_⟩
  have hj : j < M.length := (List.getElem?_eq_some_iff.mp e1).1
  rw [List.getElem?_take_of_lt hj] at e2
  exact (h.cell j c a (by rw [List.getElem?_append_left hj]; exact e1) e2).cutC (k c (List.mem_of_getElem? e1))
theorem le_take {F0 : Hp} {tb : List Addr} {n : Nat} (l : Le tb F0 th F) (hn : tb.length ≤ n) : Le tb F0 (th.take n) F :=
  ⟨l.ex, fun k a e => by
    have hk : k < tb.length := (List.getElem?_eq_some_iff.mp e).1
    rw [List.getElem?_take_of_lt (by omega)]
    exact l.pre k a e⟩
/-- the last cell is frozen and forgotten -/
theorem Hs.popFreeze {c : Cell} {o : HO} (h : Hs C th F H (M ++ [c])) (k : ∀ c ∈ M, ClnC c) (e : th[M.length]? = some p) (hn : F p = none) (hp : H p = some o) : Hs C (th.take M.length) (upd F p o) H M := by
  have h1 := h.freeze e hn hp
  have e2 : (M ++ [c]).set M.length .dead = M ++ [.dead] := by
    rw [List.set_append_right _ _ (Nat.le_refl _), Nat.sub_self]
    rfl
  rw [e2] at h1
  exact h1.pop k
end

/-! ### comprehensions -/
def wipeD (g : En) : List Nat → En
  | [] => g
  | v :: vs => (wipeD g vs).set v none
theorem Sl.wipe {C : Cn} {th : List Addr} {F : Hp} {σ : L2.St} {g : En} (h : Sl C th F σ g) : ∀ vs : List Nat, Sl C th F (L2.wipe σ vs) (wipeD g vs)
  | [] => h
  | v :: vs => (h.wipe vs).forget v none
theorem wipe_nmem : ∀ (vs : List Nat) (τ : L2.St) (i : Nat) (x : Option V), i ∉ vs → L2.wipe (τ.set i x) vs = (L2.wipe τ vs).set i x := by
  intro vs
  induction vs with
  | nil => intros; rfl
  | cons v vs ih =>
    intro τ i x h
    show (L2.wipe (τ.set i x) vs).set v none = ((L2.wipe τ vs).set v none).set i x
    rw [ih τ i x fun e => h (List.mem_cons_of_mem _ e)]
    exact List.set_comm _ _ fun e => h (by rw [e]; exact List.mem_cons_self)
theorem wipe_mem : ∀ (vs : List Nat) (τ : L2.St) (i : Nat) (x : Option V), i ∈ vs → L2.wipe (τ.set i x) vs = L2.wipe τ vs := by
  intro vs
  induction vs with
  | nil => intro _ _ _ h; cases h
  | cons v vs ih =>
    intro τ i x h
    show (L2.wipe (τ.set i x) vs).set v none = (L2.wipe τ vs).set v none
    by_cases hi : i ∈ vs
    · rw [ih τ i x hi]
    · have e : i = v := by
        rcases List.mem_cons.mp h with e | e
        · exact e
        · exact absurd e hi
      subst e
      rw [wipe_nmem vs τ i x hi, List.set_set]
theorem wipe_two : ∀ (vs : List Nat) (τ : L2.St), L2.wipe (L2.wipe τ vs) vs = L2.wipe τ vs := by
  intro vs
  induction vs with
  | nil => intros; rfl
  | cons v vs ih =>
    intro τ
    show (L2.wipe ((L2.wipe τ vs).set v none) vs).set v none = (L2.wipe τ vs).set v none
    by_cases hv : v ∈ vs
    · rw [wipe_mem vs _ v none hv, ih]
    · rw [wipe_nmem vs _ v none hv, ih, List.set_set]
theorem wipe_set {σ : L2.St} {i : Nat} {x : Option V} {vs : List Nat} (h : i ∈ vs) : L2.wipe ((L2.wipe σ vs).set i x) vs = L2.wipe σ vs := by
  rw [wipe_mem vs _ i x h, wipe_two]
def dYes : DT := fun _ M _ k => k true M
abbrev X0 : EK := fun _ _ => False
abbrev W0 : WX := fun _ _ _ _ => False
/-- [.. for .. in .. if ..]; vs: its own names. While it runs its list is the last cell -/
def dLc (di : DIt) (dg : D → En → (En → Prop) → Prop) (dt : DT) (de : DE) (vs : List Nat) : DE := fun g M X k => di g M X fun ys M' => (∀ c ∈ M', ClnC c) ∧ ys.length < sizeLine ∧ ∃ Inv : Nat → List D → Prop, Inv 0 [] ∧
  (∀ (i : Nat) (y : D) (acc : List D), ys[i]? = some y → Inv i acc → dg y (wipeD g vs) fun g2 => dt g2 (M' ++ [.lst acc]) X0 fun b M2 => M2 = M' ++ [.lst acc] ∧
    if b = true then de g2 (M' ++ [.lst acc]) X0 fun z M3 => M3 = M' ++ [.lst acc] ∧ Cln z ∧ Inv (i + 1) (acc ++ [z]) else Inv (i + 1) acc) ∧
  ∀ acc, Inv ys.length acc → k (.lst acc) M'
section
variable {X : Cx} {C : Cn} {W : WX}
/-- the reading of a comprehension's target: what it does to the slots, to the data -/
structure Tgt (C : Cn) (vs : List Nat) (g : TG) (dg : D → En → (En → Prop) → Prop) : Prop where
  run : ∀ (th : List Addr) (F H : Hp) (M : MS) (v : V) (y : D) (σ : L2.St) (e : En) (P : En → Prop) (Q : L2.St → Hp → Prop), Hs C th F H M → Rep C th F v y → Sl C th F (L2.wipe σ vs) e → dg y e P →
    (∀ e' σ', P e' → Sl C th F σ' e' → L2.wipe σ' vs = L2.wipe σ vs → Q σ' H) → g v (L2.wipe σ vs) H Q
theorem tgt_name {vs : List Nat} {i : Nat} (h : i ∈ vs) : Tgt C vs (gName i) (gN i) :=
  ⟨fun th F H M v y σ e P Q hs r sl p k => k _ _ p (sl.set i r) (wipe_set h)⟩
theorem tgt_two {vs : List Nat} {i j : Nat} (hi : i ∈ vs) (hj : j ∈ vs) : Tgt C vs (gTup C.K 2 (gCons (gName i) (gCons (gName j) gNil))) (gT 2 (gsCons (gN i) (gsCons (gN j) gsNil))) := by
  refine ⟨fun th F H M v y σ e P Q hs r sl p k => ?_⟩
  obtain ⟨ys, e1, l, y1, r1, e2, y2, r2, e3, e4, p⟩ := p
  subst e1 e2 e3 e4
  cases r with
  | @tup a vs' _ hf rs =>
    obtain ⟨v1, v2, rfl, ra, rb⟩ := rs.two'
    refine ⟨a, [v1, v2], rfl, SqT.of (hs.ex _ _ hf), rfl, v1, [v2], rfl, v2, [], rfl, rfl, ?_⟩
    refine k _ _ p ((sl.set i ra).set j rb) ?_
    rw [wipe_mem vs _ j _ hj, wipe_set hi]
theorem lc_up {g : TG} {di : DIt} {dg : D → En → (En → Prop) → Prop} {dt : DT} {de : DE} {vs : List Nat} (tg : Tgt C vs g dg) : ∀ σ H Q, upE C W (dLc di dg dt de vs) σ H Q → tLc (upI C W di) g (upT C W0 dt) (upE C W0 de) vs σ H Q := fun σ H Q h => by
  obtain ⟨th, F, en, M, X', P, p, h⟩ := h
  refine ⟨th, F, en, M, X', _, p.at_, h, fun ys M' t1 F1 H1 J q hs1 l1 giv => ?_, p.ex⟩
  obtain ⟨hcl, hlen, Inv, i0, turn, done⟩ := q
  obtain ⟨G, Y, w, hG, hY⟩ := giv
  intro Dl hD
  have lp : Le t1 F1 (t1 ++ [Dl]) F1 := Le.push
  have atl : (t1 ++ [Dl])[M'.length]? = some Dl := by
    rw [List.getElem?_append_right (by rw [hs1.len]; exact Nat.le_refl _), hs1.len, Nat.sub_self]
    rfl
  have setl : ∀ (c c' : Cell), (M' ++ [c]).set M'.length c' = M' ++ [c'] := fun c c' => by
    rw [List.set_append_right _ _ (Nat.le_refl _), Nat.sub_self]
    rfl
  have getl : ∀ (c : Cell), (M' ++ [c])[M'.length]? = some c := fun c => by
    rw [List.getElem?_append_right (Nat.le_refl _), Nat.sub_self]
    rfl
  refine lc_it w (fun i H' => ∃ th' F' acc, Hs C th' F' H' (M' ++ [.lst acc]) ∧ Le (t1 ++ [Dl]) F1 th' F' ∧ Inv i acc ∧ (∀ z ∈ acc, Cln z) ∧ acc.length ≤ i)
    ⟨t1 ++ [Dl], F1, [], hs1.push (c := .lst []) hD ⟨hs1.ex.fr hD, [], upd_same, .nil⟩, Le.rfl, i0, fun z hz => absurd hz List.not_mem_nil, Nat.le_refl _⟩ (fun i H' _ ⟨_, _, _, a2, l2, _⟩ => hG H' (l2.ex.tr a2.ex)) ?_ ?_
  · rintro i x H2 H3 hi ⟨t2, F2, acc, a2, l2, i2, c2, n2⟩ y
    obtain ⟨F3, d, hs3, l3, ed, rd⟩ := hY i x H2 H3 t2 F2 _ hi y a2 (lp.tr l2)
    have l4 := l2.tr l3
    refine tg.run t2 F3 H3 _ x d σ (wipeD en vs) _ _ hs3 rd (((p.at_.sl.mono l1).mono (lp.tr l4)).wipe vs) (turn i d acc ed i2) fun e' σ' q4 s4 ws => ⟨ws, ?_⟩
    refine ⟨t2, F3, e', _, X0, _, ⟨⟨hs3, s4⟩, fun b M2 v t5 F5 H5 q5 h5 l5 r5 => ?_, fun _ _ _ _ _ _ _ z => z.elim⟩, q4⟩
    cases r5
    obtain ⟨eM, q5⟩ := q5
    subst eM
    cases b with
    | false => exact ⟨t5, F5, acc, h5, l4.tr l5, q5, c2, Nat.le_succ_of_le n2⟩
    | true =>
      refine ⟨t5, F5, e', _, X0, _, ⟨⟨h5, s4.mono l5⟩, fun z M6 v t6 F6 H6 q6 h6 l6 r6 => ?_, fun _ _ _ _ _ _ _ z => z.elim⟩, q5⟩
      obtain ⟨eM, cz, q6⟩ := q6
      subst eM
      have l7 := (l4.tr l5).tr l6
      have et := l7.pre _ _ atl
      obtain ⟨nF, vs6, hv, rv⟩ := h6.cell _ _ _ (getl (.lst acc)) et
      refine ⟨vs6, hv, ?_, t6, F6, acc ++ [z], ?_, l7, q6, ?_, ?_⟩
      · rw [RepL.len rv]; omega
      · rw [← setl (.lst acc)]
        exact h6.put et nF ⟨nF, _, upd_same, rv.app (.one r6)⟩
      · intro u hu
        rcases List.mem_append.mp hu with hu | hu
        · exact c2 u hu
        · rw [List.mem_singleton.mp hu]; exact cz
      · rw [List.length_append, List.length_singleton]; omega
  · rintro H2 ⟨t2, F2, acc, a2, l2, i2, c2, n2⟩
    have et := l2.pre _ _ atl
    obtain ⟨nF, vs2, hv, rv⟩ := a2.cell _ _ _ (getl (.lst acc)) et
    have hs5 := a2.popFreeze hcl et nF hv
    have l6 : Le (t2.take M'.length) F2 (t2.take M'.length) (upd F2 Dl (.lst vs2)) := Le.nw nF
    refine p.ok (.lst acc) M' (.ref Dl) _ _ H2 (done acc i2) hs5 (l1.tr ((le_take (lp.tr l2) (by rw [hs1.len]; exact Nat.le_refl _)).tr l6)) ?_
    exact .lst upd_same (RepL.mono l6 (RepL.cut c2 rv))
theorem de_lc {elt tgx iter : Expr} {ifs : List Expr} {scope : Scope} {own : List (Str × Nat)} {pos : Pos} {g : TG} {di : DIt} {dg : D → En → (En → Prop) → Prop} {dt : DT} {de : DE} (hc : X.calm = true) (hN : X.N.Nodup) (tg : Tgt C (own.map (·.2)) g dg) (hi : PI X tgx iter (upI C W di)) (ok : BlkOk X.N X.env.scope scope own)
    (hg : ∀ (s : Shared) (H : Hp) (Ca : Addr) (cl : List (Str × Addr)) (fp : List Addr), PG (X.blk s H scope (compEnvC scope cl Ca X.env) fp) tgx g)
    (ht : ∀ (s : Shared) (H : Hp) (Ca : Addr) (cl : List (Str × Addr)) (fp : List Addr), PTs (X.blk s H scope (compEnvC scope cl Ca X.env) fp) ifs (upT C W0 dt))
    (he : ∀ (s : Shared) (H : Hp) (Ca : Addr) (cl : List (Str × Addr)) (fp : List Addr), PE (X.blk s H scope (compEnvC scope cl Ca X.env) fp) elt (upE C W0 de)) (hs : ∀ x, foldedSetIterable iter X.env x = pure x := by intro _; rfl) :
    PE X (.ListComp elt [⟨tgx, iter, ifs, 0⟩] scope pos) (upE C W (dLc di dg dt de (own.map (·.2)))) := pe_imp (pe_lc hc hN hi ok hg ht he hs) (lc_up tg)
/-- y = [..], y a local name -/
theorem s_setLc {i : Nat} {y : Str} {py : Pos} {elt tgx iter : Expr} {ifs : List Expr} {scope : Scope} {own : List (Str × Nat)} {pos spos : Pos} {g : TG} {di : DIt} {dg : D → En → (En → Prop) → Prop} {dt : DT} {de : DE} (hc : X.calm = true) (hN : X.N.Nodup)
    (tg : Tgt C (own.map (·.2)) g dg) (hi : PI X tgx iter (upI C W di)) (ok : BlkOk X.N X.env.scope scope own)
    (hg : ∀ (s : Shared) (H : Hp) (Ca : Addr) (cl : List (Str × Addr)) (fp : List Addr), PG (X.blk s H scope (compEnvC scope cl Ca X.env) fp) tgx g)
    (ht : ∀ (s : Shared) (H : Hp) (Ca : Addr) (cl : List (Str × Addr)) (fp : List Addr), PTs (X.blk s H scope (compEnvC scope cl Ca X.env) fp) ifs (upT C W0 dt))
    (he : ∀ (s : Shared) (H : Hp) (Ca : Addr) (cl : List (Str × Addr)) (fp : List Addr), PE (X.blk s H scope (compEnvC scope cl Ca X.env) fp) elt (upE C W0 de))
    (hsw : swapsWith (.ListComp elt [⟨tgx, iter, ifs, 0⟩] scope pos) (some (.Name y py)) spos.line X.env = pure true) (hy : X.N[i]? = some y := by rfl) (hyl : X.env.scope.names.lookup y = some .local := by rfl) (hs : ∀ x, foldedSetIterable iter X.env x = pure x := by intro _; rfl) :
    PS X (.Assign [.Name y py] (.ListComp elt [⟨tgx, iter, ifs, 0⟩] scope pos) spos) (upS C W (sAsg (dLc di dg dt de (own.map (·.2))) (gN i))) := ps_imp (ps_setLc hc hN hy hyl hsw hi ok hg ht he hs) fun De σ H h => by
  obtain ⟨th, F, g', M, N, a, k, h⟩ := h
  refine lc_up tg σ H _ ((k.pk (rel := rD C) (P := fun y M' => N.nx (g'.set i (some y)) M') a fun y M' v th' F' H' p h l r => k.nx _ M' _ th' F' H' p ⟨h.hs, h.sl.set i r⟩ l).mk_up h)
theorem dts_nil : PTs X [] (upT C W dYes) := ⟨fun pins s σ H Q I h => pts_nil.run pins s σ H Q I (by
  obtain ⟨th, F, g, M, X', P, p, h⟩ := h
  exact p.fin h rfl)⟩
theorem dts_one {c : Expr} {t : DT} (h : PT X c (upT C W t)) : PTs X [c] (upT C W t) := pts_one h
end
end PD

/-! PD: own lists, calls of defs, fields, instances, isinstance, errors. -/
namespace PD
open PySem PySem.Spec PyProof.Rows L2

/-! ### own lists -/
section
variable {X : Cx} {C : Cn} {W : WX} {a b e : Expr} {da db : DE} {pos : Pos} {es : List Expr} {ea : DA} {ds : DS}
def dNewL (a : DA) : DE := fun g M X k => a g M X fun xs M1 => xs.length ≤ sizeLine ∧ k (.ptr M1.length) (M1 ++ [.lst xs])
theorem Pk.cell {σ : L2.St} {Q : VK} {th : List Addr} {F H : Hp} {g : En} {M : MS} {X' : EK} {P : D → MS → Prop} {q : Addr} {vs : List V} {xs : List D} (p : Pk C W (rD C) σ Q th F H g M X' P) (hq : H q = none) (r : RepL C th F vs xs) (k : P (.ptr M.length) (M ++ [.lst xs])) :
    Q (.ref q) (upd H q (.lst vs)) := by
  have l : Le th F (th ++ [q]) F := Le.push
  refine p.ok _ _ (.ref q) (th ++ [q]) F _ k (p.at_.hs.push (c := .lst xs) hq ⟨p.at_.hs.ex.fr hq, vs, upd_same, r.mono l⟩) l (.ptr ?_)
  rw [List.getElem?_append_right (by rw [p.at_.hs.len]; exact Nat.le_refl _), p.at_.hs.len, Nat.sub_self]
  rfl
theorem de_newL (h : PA X es (upA C W ea)) : PE X (.List es pos) (upE C W (dNewL ea)) := pe_imp (pe_lst h) fun σ H Q h => by
  obtain ⟨th, F, g, M, X', P, p, h⟩ := h
  refine p.bind h fun xs vs t1 F1 H1 M1 h1 rx l1 p1 => ?_
  exact ⟨by rw [RepL.len rx]; exact h1.1, fun q hq => p1.cell hq rx h1.2⟩
def dNewRep (da db : DE) : DE := fun g M X k => da g M X fun x M1 => db g M1 X fun y M2 => ∃ xs n, lstOf x M2 = some xs ∧ y = .int n ∧ 0 ≤ n ∧ n < 1000000 ∧ xs.length * n.toNat ≤ sizeLine ∧ k (.ptr M2.length) (M2 ++ [.lst (List.replicate n.toNat xs).flatten])
theorem de_newRep (ha : PE X a (upE C W da)) (hb : PE X b (upE C W db)) : PE X (.BinOp a .Mult b pos) (upE C W (dNewRep da db)) := pe_imp (pe_op op_rep ha hb) fun σ H Q h => by
  obtain ⟨th, F, g, M, X', P, p, h⟩ := h
  refine p.bind h fun x v t1 F1 H1 M1 h1 rx l1 p1 => p1.bind h1 fun y w t2 F2 H2 M2 h2 ry l2 p2 => ?_
  obtain ⟨xs, n, e1, rfl, h0, h3, hz, q⟩ := h2
  obtain ⟨ad, vs, rfl, ha, r1⟩ := lst_at p2.at_.hs (rx.mono l2) e1
  cases ry
  exact ⟨ad, n, vs, rfl, rfl, ha, by omega, by omega, by rw [RepL.len r1]; exact hz, fun q' hq => p2.cell hq (RepL.rep r1) q⟩
def dNewList (a : DA) : DE := fun g M X k => a g M X fun xs M1 => ∃ x ys, xs = [x] ∧ seqOf x M1 = some ys ∧ k (.ptr M1.length) (M1 ++ [.lst ys])
theorem de_newList {p : Pos} (hm : X.mg "list" = none) (ha : PA X [a] (upA C W ea)) (hg : Gl X "list" := by rfl) (he : starEach [a] X.env = (false, eval a X.env) :: starEach [] X.env := by rfl) : PE X (.Call (.Name "list" p) [a] [] pos) (upE C W (dNewList ea)) :=
  pe_imp (pe_callTy call_list_of hg hm (by decide +kernel) ha (by decide) (by decide) he) fun σ H Q h => by
  obtain ⟨th, F, g, M, X', P, p, h⟩ := h
  refine p.bind h fun xs vs t1 F1 H1 M1 h1 rx l1 p1 => ?_
  obtain ⟨x, ys, rfl, e, q⟩ := h1
  obtain ⟨v, rfl, r⟩ := RepL.one' rx
  obtain ⟨ad, ws, rfl, h2, r1⟩ := seq_at p1.at_.hs r e
  exact ⟨ad, ws, rfl, h2.elim (fun z => .inl (SqL.of z)) (fun z => .inr (SqT.of z)), fun q' hq => p1.cell hq r1 q⟩
/-- x.append(y), x an own list -/
def dApp (dx dy : DE) : DE := fun g M X k => dx g M X fun x M1 => ∃ j, x = .ptr j ∧ (∃ zs, M1[j]? = some (.lst zs)) ∧ dy g M1 X fun y M2 => ∃ xs, M2[j]? = some (.lst xs) ∧ xs.length < sizeLine ∧ k .non (M2.set j (.lst (xs ++ [y])))
theorem de_app {apos cpos : Pos} (ha : PE X a (upE C W da)) (hb : PE X b (upE C W db)) (hst : starEach (b :: []) X.env = (false, eval b X.env) :: starEach [] X.env := by rfl) (hpl : (backTo cpos (starEach [] X.env)).any (·.1) = false := by rfl)
    (hx : PE X (.Call (.Attribute a "append" apos) [b] [] cpos) (tBM X.K "list" rAppend (upE C W da) (tCons (upE C W db) tNil))) : PE X (.Call (.Attribute a "append" apos) [b] [] cpos) (upE C W (dApp da db)) := pe_imp hx fun σ H Q h => by
  obtain ⟨th, F, g, M, X', P, p, h⟩ := h
  refine p.bind h fun x v t1 F1 H1 M1 h1 rx l1 p1 => ?_
  obtain ⟨j, rfl, ⟨zs, ez⟩, q⟩ := h1
  cases rx with
  | @ptr ad _ et =>
    obtain ⟨_, vz, hz, _⟩ := p1.at_.hs.cell _ _ _ ez et
    refine ⟨.inl ⟨rfl, vz, SqL.of hz⟩, p1.bind q fun y w t2 F2 H2 M2 h2 ry l2 p2 => ?_⟩
    obtain ⟨xs, ex, hl, q⟩ := h2
    have et2 := l2.pre _ _ et
    obtain ⟨nF, vs, hv, rv⟩ := p2.at_.hs.cell _ _ _ ex et2
    refine ⟨ad, vs, w, rfl, rfl, hv, by rw [RepL.len rv]; exact hl, ?_⟩
    exact p2.ok _ _ .non t2 F2 _ q (p2.at_.hs.put et2 nF ⟨nF, _, upd_same, rv.app (.one ry)⟩) Le.rfl .non
/-- x[i] = y, x an own list -/
def sSetL (dy dx di : DE) : DS := fun g M N => dy g M (fun e M' => N.ex e g M') fun y M1 => dx g M1 (fun e M' => N.ex e g M') fun x M2 => di g M2 (fun e M' => N.ex e g M') fun i M3 =>
  ∃ j xs k n, x = .ptr j ∧ M3[j]? = some (.lst xs) ∧ i = .int k ∧ ixN xs.length k = some n ∧ N.nx g (M3.set j (.lst (xs.set n y)))
theorem s_setL {ix : Expr} {dx : DE} {p2 : Pos} (hy : PE X e (upE C W da)) (ho : PE X a (upE C W db)) (hi : PE X ix (upE C W dx)) (hx : PS X (.Assign [.Subscript a ix p2] e pos) (tAsg (upE C W da) (gSub (upE C W db) (upE C W dx) rSetL))) :
    PS X (.Assign [.Subscript a ix p2] e pos) (upS C W (sSetL da db dx)) := ps_imp hx fun De σ H h => by
  obtain ⟨th, F, g, M, N, a, k, h⟩ := h
  refine (k.pk (rel := rD C) a fun y M1 v t1 F1 H1 q1 a1 l1 r1 => ?_).mk_up h
  refine ((k.mono l1).pk (rel := rD C) a1 fun x M2 w t2 F2 H2 q2 a2 l2 r2 => ?_).mk_up q1
  refine ((k.mono (l1.tr l2)).pk (rel := rD C) a2 fun i M3 u t3 F3 H3 q3 a3 l3 r3 => ?_).mk_up q2
  obtain ⟨j, xs, kk, n, rfl, ex, rfl, en, q⟩ := q3
  cases r3
  cases r2 with
  | @ptr ad _ et =>
    have et3 := l3.pre _ _ et
    obtain ⟨nF, vs, hv, rv⟩ := a3.hs.cell _ _ _ ex et3
    refine ⟨ad, vs, kk, n, rfl, rfl, hv, by rw [RepL.len rv]; exact en, ?_⟩
    exact k.nx g _ σ t3 F3 _ q ⟨a3.hs.put et3 nF ⟨nF, _, upd_same, rv.set n (r1.mono (l2.tr l3))⟩, a3.sl⟩ ((l1.tr l2).tr l3)
/-- x.pop(), x an own list -/
def dPop (dx : DE) : DE := fun g M X k => dx g M X fun x M1 => ∃ j xs y, x = .ptr j ∧ M1[j]? = some (.lst xs) ∧ xs[xs.length - 1]? = some y ∧ k y (M1.set j (.lst xs.dropLast))
theorem RepL.dropLast {C : Cn} {th : List Addr} {F : Hp} {vs : List V} {xs : List D} (r : RepL C th F vs xs) : RepL C th F vs.dropLast xs.dropLast := by
  rw [List.dropLast_eq_take, List.dropLast_eq_take, RepL.len r]
  exact r.take _
theorem de_pop {apos cpos : Pos} (ha : PE X a (upE C W da)) (hx : PE X (.Call (.Attribute a "pop" apos) [] [] cpos) (tBM0 X.K "list" rPop (upE C W da))) : PE X (.Call (.Attribute a "pop" apos) [] [] cpos) (upE C W (dPop da)) := pe_imp hx fun σ H Q h => by
  obtain ⟨th, F, g, M, X', P, p, h⟩ := h
  refine p.bind h fun x v t1 F1 H1 M1 h1 rx l1 p1 => ?_
  obtain ⟨j, xs, y, rfl, ex, ey, q⟩ := h1
  cases rx with
  | @ptr ad _ et =>
    obtain ⟨nF, vs, hv, rv⟩ := p1.at_.hs.cell _ _ _ ex et
    obtain ⟨u, eu, ru⟩ := rv.get ey
    refine ⟨.inl ⟨rfl, vs, SqL.of hv⟩, ad, vs, u, rfl, rfl, hv, by rw [RepL.len rv]; exact eu, ?_⟩
    exact p1.ok _ _ u t1 F1 _ q (p1.at_.hs.put et nF ⟨nF, _, upd_same, rv.dropLast⟩) Le.rfl ru
/-- the own list in slot i is read from here on as data -/
def sFrz (i : Nat) (s : DS) : DS := fun g M N => ∃ j xs, g[i]? = some (some (.ptr j)) ∧ M[j]? = some (.lst xs) ∧ s (g.set i (some (.lst xs))) (M.set j .dead) N
theorem frz_up {D' : Ends} {σ : L2.St} {H : Hp} {i : Nat} (h : upS C W (sFrz i ds) D' σ H) : upS C W ds D' σ H := by
  obtain ⟨th, F, g, M, N, a, k, j, xs, eg, em, h⟩ := h
  obtain ⟨v, ev, r⟩ := a.sl.2 i _ eg
  cases r with
  | @ptr ad _ et =>
    obtain ⟨nF, vs, hv, rv⟩ := a.hs.cell _ _ _ em et
    have l : Le th F th (upd F ad (.lst vs)) := Le.nw nF
    refine ⟨th, upd F ad (.lst vs), _, _, N, ⟨a.hs.freeze et nF hv, ?_⟩, k.mono l, h⟩
    have s := (a.sl.mono l).set i (v := .ref ad) (y := .lst xs) (.lst upd_same (RepL.mono l rv))
    have e2 : σ.set i (some (.ref ad)) = σ := by
      refine List.ext_getElem? fun n => ?_
      by_cases q : i = n
      · subst q
        rw [List.getElem?_set_self (List.getElem?_eq_some_iff.mp ev).1, ev]
      · rw [List.getElem?_set_ne q]
    rw [e2] at s
    exact s
theorem s_frz {st : Stmt} (i : Nat) (h : PS X st (upS C W ds)) : PS X st (upS C W (sFrz i ds)) := ps_imp h fun _ _ _ q => frz_up q
theorem ss_frz {st : List Stmt} (i : Nat) (h : PSs X st (upS C W ds)) : PSs X st (upS C W (sFrz i ds)) := pss_imp h fun _ _ _ q => frz_up q
end

/-! ### promises over data -/
abbrev DSp := List D → MS → EK → (D → MS → Prop) → Prop
def upSp (C : Cn) (s : DSp) : Sp := fun vs H Q E => ∃ th F M ys X P, Hs C th F H M ∧ RepL C th F vs ys ∧ s ys M X P ∧
  (∀ (y : D) (M' : MS) (v : V) (th' : List Addr) (F' H' : Hp), P y M' → Hs C th' F' H' M' → Le th F th' F' → Rep C th' F' v y → Q v H') ∧
  ∀ (e : Exn) (M' : MS) (th' : List Addr) (F' H' : Hp) (cls : Value) (dd : Option Addr), X e M' → Hs C th' F' H' M' → Le th F th' F' → ExcAt C th' F' H' e cls dd → E cls dd H'
def dCall (s : DSp) (dd : List D) (a : DA) : DE := fun g M X k => a g M X fun xs M1 => s (xs ++ dd) M1 X k
section
variable {X : Cx} {C : Cn} {W : WX} {a : Expr} {pos p : Pos} {es : List Expr} {ea : DA} {x : Str} {k : Nat} {f : Addr} {fd : FuncData} {ps : List Str} {s : DSp} {ds : List Value} {dvs : List V} {dd : List D}
theorem de_callD (F : FnOk X.prog X.w X.K X.mg X.base (L2.CX X.prog X.w) k f fd ps (upSp C s)) (hr : Room k X.A) (hm : X.mg x = some (.ref f)) (hk : PySem.W.keepIn X.K (.ref f) = true) (hb : Binds X.K fd ps ds) (hd : Vals dvs ds) (rd : ∀ th F, RepL C th F dvs dd) (tk : Takes X W)
    (ha : PA X (a :: es) (upA C W ea)) (hg : Gl X x := by rfl) (hdb : (x == ("__debug__" : Str)) = false := by decide) (he : starEach (a :: es) X.env = (false, eval a X.env) :: starEach es X.env := by rfl) (hpl : (backTo pos (starEach es X.env)).any (·.1) = false := by rfl) :
    PE X (.Call (.Name x p) (a :: es) [] pos) (upE C W (dCall s dd ea)) :=
  pe_imp (pe_callSD F hr hg hm hk hb hd (fun σ => passAt tk σ) ha hdb he hpl) fun σ H Q h => by
    obtain ⟨th, F, g, M, X', P, p, h⟩ := h
    refine p.bind h fun xs vs t1 F1 H1 M1 h1 rx l1 p1 => ?_
    exact ⟨t1, F1, M1, xs ++ dd, X', P, p1.at_.hs, rx.app (rd _ _), h1, p1.ok, p1.ex⟩
theorem de_call (F : FnOk X.prog X.w X.K X.mg X.base (L2.CX X.prog X.w) k f fd ps (upSp C s)) (hr : Room k X.A) (hm : X.mg x = some (.ref f)) (hk : PySem.W.keepIn X.K (.ref f) = true) (hb : Binds X.K fd ps []) (tk : Takes X W)
    (ha : PA X (a :: es) (upA C W ea)) (hg : Gl X x := by rfl) (hdb : (x == ("__debug__" : Str)) = false := by decide) (he : starEach (a :: es) X.env = (false, eval a X.env) :: starEach es X.env := by rfl) (hpl : (backTo pos (starEach es X.env)).any (·.1) = false := by rfl) :
    PE X (.Call (.Name x p) (a :: es) [] pos) (upE C W (dCall s [] ea)) := de_callD F hr hm hk hb .nil (fun _ _ => .nil) tk ha hg hdb he hpl
end
/-- how a def's body starts: the arguments, the other names empty -/
def startD (n : Nat) (ys : List D) : En := ys.map some ++ List.replicate (n - ys.length) none
theorem start_sl {C : Cn} {th : List Addr} {F : Hp} {N : List Str} {vs : List V} {ys : List D} (r : RepL C th F vs ys) : Sl C th F (L2.start N vs) (startD N.length ys) := by
  have hl := RepL.len r
  refine ⟨?_, fun i y e => ?_⟩
  · unfold L2.start startD
    simp [hl]
  · unfold startD at e
    by_cases hi : i < ys.length
    · rw [List.getElem?_append_left (by rw [List.length_map]; exact hi), List.getElem?_map] at e
      cases h : ys[i]? with
      | none => rw [h] at e; cases e
      | some d =>
        rw [h] at e
        obtain rfl : d = y := by simpa using e
        obtain ⟨v, h1, h2⟩ := r.get h
        refine ⟨v, ?_, h2⟩
        unfold L2.start
        rw [List.getElem?_append_left (by rw [List.length_map, hl]; exact hi), List.getElem?_map, h1]
        rfl
    · rw [List.getElem?_append_right (by rw [List.length_map]; omega)] at e
      rw [List.getElem?_replicate] at e
      split at e <;> cases e
/-- behind the body: the cells that it made are forgotten -/
inductive Ret (P : D → MS → Prop) (n : Nat) (y : D) (M : MS) : Prop
  | same : P y M → Ret P n y M
  | drop {M0 L : MS} : M = M0 ++ L → n ≤ M0.length → (∀ c ∈ M0, ClnC c) → Cln y → P y M0 → Ret P n y M
inductive RetX (X : EK) (n : Nat) (e : Exn) (M : MS) : Prop
  | same : X e M → RetX X n e M
  | drop {M0 L : MS} : M = M0 ++ L → n ≤ M0.length → (∀ c ∈ M0, ClnC c) → (∀ f y, e.fld = some (f, y) → Cln y) → X e M0 → RetX X n e M
def bodyN (n : Nat) (X : EK) (P : D → MS → Prop) : DN := ⟨fun _ M => Ret P n .non M, fun y M => Ret P n y M, fun _ _ => False, fun _ _ => False, fun e _ M => RetX X n e M⟩
section
variable {P : Program} {w : World} {K : PySem.W.Frag} {mg : Str → Option Value} {base : Heap} {C : Cn}
/-- THE RULE for a def: its body's derivation, and the promise without a heap -/
theorem fn_okD {x qual : Str} {st : Stmt} {f : Addr} {fd : FuncData} {N ps : List Str} {k : Nat} {s : DSp} {d : DS} (F : Fun K x qual st f fd) (S : FnScope N ps (defScope st)) (len : ∀ ys M X P, s ys M X P → ys.length = ps.length)
    (hbody : ∀ (cdv : Value) (A : Around) (outer : List Env) (sh : Shared) (H : Hp) (E : XK), Room k (A.deeper (envOfC qual (defScope st) sh.heap.objs.size f cdv)) →
      PSs (cxOf (L2.CX P w) P w K mg base N qual (defScope st) f cdv A outer sh H E) (defBody st) (upS C (fun cls dd _ H' => E cls dd H') d))
    (pure : ∀ ys M X P, s ys M X P → d (startD N.length ys) M (bodyN M.length X P)) : FnOk P w K mg base (L2.CX P w) (k + 1) f fd ps (upSp C s) := by
  refine F.okX S (fun vs H Q E h => ?_) (fun cdv A outer sh H vs Q E hr h => ?_)
  · obtain ⟨th, F', M, ys, X, P', hs, r, h, _⟩ := h
    rw [RepL.len r]
    exact len _ _ _ _ h
  · obtain ⟨th, F', M, ys, X, P', hs, r, h, ok, ex⟩ := h
    refine ⟨_, hbody cdv A outer sh H E hr, th, F', startD N.length ys, M, bodyN M.length X P', ⟨hs, start_sl r⟩, ?_, pure ys M X P' h⟩
    · have rt : ∀ (y : D) (M' : MS) (v : V) (th' : List Addr) (F1 H' : Hp), Ret P' M.length y M' → Hs C th' F1 H' M' → Le th F' th' F1 → Rep C th' F1 v y → Q v H' := by
        intro y M' v th' F1 H' q h' l r'
        cases q with
        | same q => exact ok y M' v th' F1 H' q h' l r'
        | @drop M0 L e hn hc cy q =>
          subst e
          exact ok y M0 v _ F1 H' q (h'.pop hc) (le_take l (by rw [hs.len]; exact hn)) (Rep.cut cy r')
      refine ⟨fun g M' σ th' F1 H' q a l => rt .non M' .non th' F1 H' q a.hs l .non, rt, fun _ _ _ _ _ _ q => q.elim, fun _ _ _ _ _ _ q => q.elim, fun e g M' σ th' F1 H' cls dd q a l x => ?_⟩
      cases q with
      | same q => exact ex e M' th' F1 H' cls dd q a.hs l x
      | @drop M0 L e0 hn hc cy q =>
        subst e0
        refine ex e M0 _ F1 H' cls dd q (a.hs.pop hc) (le_take l (by rw [hs.len]; exact hn)) ?_
        obtain ⟨x1, x2⟩ := x
        refine ⟨x1, ?_⟩
        cases hf : e.fld with
        | none => rw [hf] at x2; exact x2
        | some fy =>
          obtain ⟨f, y⟩ := fy
          rw [hf] at x2
          obtain ⟨ad, v, h1, h2, h3⟩ := x2
          exact ⟨ad, v, h1, h2, Rep.cut (cy f y hf) h3⟩
end
end PD

/-! PD: fields, instances, isinstance. -/
namespace PD
open PySem PySem.Spec PyProof.Rows L2

section
variable {X : Cx} {C : Cn} {W : WX}
def sNever : DS := fun _ _ _ => False
theorem s_never {st : Stmt} : PS X st (upS C W sNever) := ps_imp ps_never fun De σ H h => by
  obtain ⟨th, F, g, M, N, a, k, h⟩ := h
  exact h.elim
theorem ss_never {st : List Stmt} : PSs X st (upS C W sNever) := pss_imp pss_never fun De σ H h => by
  obtain ⟨th, F, g, M, N, a, k, h⟩ := h
  exact h.elim
end

/-! ### the class Game's instances -/
def gmF (n s : Int) (ws : List Int) : List (Str × D) := [("size", .int n), ("share", .int s), ("ways", .tup (iL ws))]
theorem RepF.lookup {C : Cn} {th : List Addr} {F : Hp} : ∀ {gs : List (Str × V)} {fs : List (Str × D)} {f : Str} {y : D}, RepF C th F gs fs → fs.lookup f = some y → ∃ v, gs.lookup f = some v ∧ Rep C th F v y
  | [], [], _, _, _, e => by cases e
  | (g, v) :: gs, (h, d) :: fs, f, y, ⟨e, r1, r2⟩, l => by
    subst e
    rw [List.lookup_cons] at l ⊢
    cases hb : f == g with
    | true =>
      rw [hb] at l
      cases l
      exact ⟨v, rfl, r1⟩
    | false =>
      rw [hb] at l
      exact RepF.lookup r2 l
theorem RepF.none {C : Cn} {th : List Addr} {F : Hp} : ∀ {gs : List (Str × V)} {fs : List (Str × D)} {f : Str}, RepF C th F gs fs → fs.lookup f = none → gs.lookup f = none
  | [], [], _, _, _ => rfl
  | (g, v) :: gs, (h, d) :: fs, f, ⟨e, r1, r2⟩, l => by
    subst e
    rw [List.lookup_cons] at l ⊢
    cases hb : f == g with
    | true => rw [hb] at l; cases l
    | false =>
      rw [hb] at l
      exact RepF.none r2 l
theorem RepF.len {C : Cn} {th : List Addr} {F : Hp} : ∀ {gs : List (Str × V)} {fs : List (Str × D)}, RepF C th F gs fs → gs.length = fs.length
  | [], [], _ => rfl
  | (_, _) :: _, (_, _) :: _, ⟨_, _, r⟩ => by rw [List.length_cons, List.length_cons, RepF.len r]
def putD (f : Str) (y : D) : List (Str × D) → List (Str × D)
  | [] => [(f, y)]
  | (g, x) :: r => if g = f then (g, y) :: r else (g, x) :: putD f y r
theorem RepF.put {C : Cn} {th : List Addr} {F : Hp} {f : Str} {y : D} {v : V} (r : Rep C th F v y) : ∀ {gs : List (Str × V)} {fs : List (Str × D)}, RepF C th F gs fs → RepF C th F (putF f v gs) (putD f y fs)
  | [], [], _ => ⟨rfl, r, trivial⟩
  | (g, w) :: gs, (h, d) :: fs, ⟨e, r1, r2⟩ => by
    subst e
    unfold putF putD
    by_cases q : g = f
    · rw [if_pos q, if_pos q]
      exact ⟨rfl, r, r2⟩
    · rw [if_neg q, if_neg q]
      exact ⟨rfl, r1, RepF.put r r2⟩
/-- a game's field -/
def dGet (f : Str) (d : DE) : DE := fun g M X k => d g M X fun x M1 => ∃ n s ws y, x = .gm n s ws ∧ (gmF n s ws).lookup f = some y ∧ k y M1
theorem gm_at {C : Cn} {th : List Addr} {F H : Hp} {M : MS} {v : V} {n s : Int} {ws : List Int} (h : Hs C th F H M) (r : Rep C th F v (.gm n s ws)) : ∃ a dx fs, v = .ref a ∧ H a = some (.ins C.G dx fs) ∧ RepF C th F fs (gmF n s ws) := by
  cases r with
  | @gm a dx t _ _ _ h1 h2 => exact ⟨a, dx, _, rfl, h.ex _ _ h1, rfl, .int _, rfl, .int _, rfl, .tup h2 (RepL.iL ws), trivial⟩
section
variable {X : Cx} {C : Cn} {W : WX} {e a : Expr} {d da : DE} {pos : Pos} {f : Str}
theorem de_get (he : PE X e (upE C W d)) (hc : Cls C.K C.G) (hn : NoAttr C.K C.G f) (hK : X.K = C.K := by rfl) (hb : attributeBase e f X.env (eval e X.env) = eval e X.env := by rfl) : PE X (.Attribute e f pos) (upE C W (dGet f d)) :=
  pe_imp (pe_fld he hb) fun σ H Q h => by
    obtain ⟨th, F, g, M, X', P, p, h⟩ := h
    refine p.bind h fun x v t1 F1 H1 M1 h1 rx l1 p1 => ?_
    obtain ⟨n, s, ws, y, e1, e2, q⟩ := h1
    subst e1
    obtain ⟨a, dx, fs, rfl, ha, rf⟩ := gm_at p1.at_.hs rx
    obtain ⟨u, e3, ru⟩ := rf.lookup e2
    exact ⟨a, C.G, dx, fs, u, rfl, ha, hK ▸ hc, hK ▸ hn, e3, p1.fin q ru⟩
/-- a game's property -/
theorem de_prop {CX : CXT} {k : Nat} {p g : Addr} {fd : FuncData} {ps : List Str} {nm : Str} (he : PE X e (upE C W d)) (hc : Cls C.K C.G) (hp : PropOf X.K C.G nm p g) (F : FnOk X.prog X.w X.K X.mg X.base CX k g fd ps (getSp C.G f)) (hr : Room (k + 1) X.A) (hb : Binds X.K fd ps []) (hx : Passes CX X.nox E0)
    (hK : X.K = C.K := by rfl) (hab : attributeBase e nm X.env (eval e X.env) = eval e X.env := by rfl) : PE X (.Attribute e nm pos) (upE C W (dGet f d)) :=
  pe_imp (pe_prop he (hK ▸ hc) hp F hr hb .nil hx hab) fun σ H Q h => by
    obtain ⟨th, F, g, M, X', P, p, h⟩ := h
    refine p.bind h fun x v t1 F1 H1 M1 h1 rx l1 p1 => ?_
    obtain ⟨n, s, ws, y, e1, e2, q⟩ := h1
    subst e1
    obtain ⟨a, dx, fs, rfl, ha, rf⟩ := gm_at p1.at_.hs rx
    obtain ⟨u, e3, ru⟩ := rf.lookup e2
    exact ⟨a, dx, fs, rfl, ha, a, dx, fs, u, rfl, ha, e3, p1.fin q ru⟩
/-- a field of a cell that is an instance of the class at c -/
def dIGet (c : Addr) (f : Str) (d : DE) : DE := fun g M X k => d g M X fun x M1 => ∃ j fs y, x = .ptr j ∧ M1[j]? = some (.ins c fs) ∧ fs.lookup f = some y ∧ k y M1
theorem de_iget {c : Addr} (he : PE X e (upE C W d)) (hc : Cls X.K c) (hn : NoAttr X.K c f) (hb : attributeBase e f X.env (eval e X.env) = eval e X.env := by rfl) : PE X (.Attribute e f pos) (upE C W (dIGet c f d)) :=
  pe_imp (pe_fld he hb) fun σ H Q h => by
    obtain ⟨th, F, g, M, X', P, p, h⟩ := h
    refine p.bind h fun x v t1 F1 H1 M1 h1 rx l1 p1 => ?_
    obtain ⟨j, fs, y, rfl, ej, el, q⟩ := h1
    cases rx with
    | @ptr a _ et =>
      obtain ⟨nF, dx, gs, ha, rf⟩ := p1.at_.hs.cell _ _ _ ej et
      obtain ⟨u, e3, ru⟩ := rf.lookup el
      exact ⟨a, c, dx, gs, u, rfl, ha, hc, hn, e3, p1.fin q ru⟩
/-- o.f = e, o a cell -/
def sPut (c : Addr) (f : Str) (da d : DE) : DS := fun g M N => d g M (fun e M' => N.ex e g M') fun y M1 => da g M1 (fun e M' => N.ex e g M') fun x M2 => ∃ j fs, x = .ptr j ∧ M2[j]? = some (.ins c fs) ∧ fs.length < 1000 ∧ N.nx g (M2.set j (.ins c (putD f y fs)))
theorem s_put {c : Addr} {pos' : Pos} (ha : PE X a (upE C W da)) (he : PE X e (upE C W d)) (hc : Cls X.K c) (hn : NoAttr X.K c f) (hs : swapsWith e (some (.Attribute a f pos')) pos.line X.env = pure false := by rfl) : PS X (.Assign [.Attribute a f pos'] e pos) (upS C W (sPut c f da d)) :=
  ps_imp (ps_fld ha he hs) fun De σ H h => by
    obtain ⟨th, F, g, M, N, a, k, h⟩ := h
    refine (k.pk (rel := rD C) a fun y M1 v t1 F1 H1 q1 a1 l1 r1 => ?_).mk_up h
    refine ((k.mono l1).pk (rel := rD C) a1 fun x M2 w t2 F2 H2 q2 a2 l2 r2 => ?_).mk_up q1
    obtain ⟨j, fs, rfl, ej, hl, q⟩ := q2
    cases r2 with
    | @ptr ad _ et =>
      obtain ⟨nF, dx, gs, hv, rf⟩ := a2.hs.cell _ _ _ ej et
      refine ⟨ad, c, dx, gs, rfl, hv, hc, hn, by rw [RepF.len rf]; exact hl, ?_⟩
      exact k.nx g _ σ t2 F2 _ q ⟨a2.hs.put et nF ⟨nF, dx, _, upd_same, RepF.put (r1.mono l2) rf⟩, a2.sl⟩ (l1.tr l2)
end

/-! ### C(..) -/
section
variable {X : Cx} {CX : CXT} {k : Nat} {cl f : Addr} {fd : FuncData} {ps : List Str} {sp : Sp} {E : L2.St → XK} {x : Str} {p pos : Pos} {e : Expr} {es : List Expr} {t : TA}
def tMakeS (cl : Addr) (sp : Sp) (E : L2.St → XK) (t : TA) : TE := fun σ H Q => t σ H fun vs H1 => ∀ x dx, H1 x = none → H1 dx = none → dx ≠ x →
  sp (.ref x :: vs) (upd (upd H1 dx (.own x)) x (.ins cl dx [])) (fun v H2 => v = .non ∧ Q (.ref x) H2) (E σ)
theorem run_makeS {pins : List (Addr × Obj)} {σ : L2.St} {H : Hp} {s : Shared} {Q : VK} {us : List Value} {vs : List V} (M : Mk X.K cl f) (F : FnOk X.prog X.w X.K X.mg X.base CX k f fd ps sp) (hr : Room (k + 1) X.A) (hb : Binds X.K fd ps [])
    (hx : PassesAt CX X σ (E σ)) (I : Inv X pins σ H s) (r : Vals vs us)
    (h : ∀ x dx, H x = none → H dx = none → dx ≠ x → sp (.ref x :: vs) (upd (upd H dx (.own x)) x (.ins cl dx [])) (fun v H2 => v = .non ∧ Q (.ref x) H2) (E σ)) :
    wpAny (model X.prog X.w) X.A (call (.ref cl) us) (EP X pins σ Q) X.xe s := by
  have hq := h (s.heap.objs.size + 1) s.heap.objs.size (I.hok.fresh (Nat.le_succ _)) (I.hok.fresh (Nat.le_refl _)) (Nat.ne_of_lt (Nat.lt_succ_self _))
  have I2 := Inv.made (C := cl) I
  have r2 : Vals (V.ref (s.heap.objs.size + 1) :: vs) (Value.ref (s.heap.objs.size + 1) :: us) := .cons rfl r
  have hl : (Value.ref (s.heap.objs.size + 1) :: us ++ []).length = ps.length := by
    have e := r2.length
    rw [F.len _ _ _ _ hq] at e
    rw [List.append_nil]
    exact e.symm
  have b := hb _ (Value.ref (s.heap.objs.size + 1) :: us) I2.kIn hl
  rw [List.append_nil] at b
  refine wpAny_call (make_map (f := f) I.kIn M.makes M.init (beq_iff_eq.mp M.fn) (codeAny_mono (F.run _ X.stack _ _ ⟨Value.ref (s.heap.objs.size + 1) :: us, []⟩ (Value.ref (s.heap.objs.size + 1) :: us) _ _ (E σ) (hr.make cl us [])
    (I2.env0.make cl us []) b r2 hq) fun r s' hq' => ?_))
  cases r with
  | error e => exact hx pins _ _ e s' I2 hq'
  | ok fl =>
    cases fl with
    | ret u =>
      obtain ⟨v, H', I3, rv, ev, q3⟩ := I2.after hq'
      subst ev
      exact ⟨rv, ⟨V.ref (s.heap.objs.size + 1), H', I3, rfl, q3⟩⟩
    | next => exact False.elim hq'
    | brk => exact False.elim hq'
    | cont => exact False.elim hq'
theorem pe_makeS (M : Mk X.K cl f) (F : FnOk X.prog X.w X.K X.mg X.base CX k f fd ps sp) (hr : Room (k + 1) X.A) (hg : Gl X x) (hm : X.mg x = some (.ref cl)) (hb : Binds X.K fd ps []) (hx : ∀ σ, PassesAt CX X σ (E σ))
    (ha : PA X (e :: es) t) (hdb : (x == ("__debug__" : Str)) = false := by decide) (he : starEach (e :: es) X.env = (false, eval e X.env) :: starEach es X.env := by rfl) (hpl : (backTo pos (starEach es X.env)).any (·.1) = false := by rfl) :
    PE X (.Call (.Name x p) (e :: es) [] pos) (tMakeS cl sp E t) := by
  refine ⟨fun pins s σ H Q I h => ?_⟩
  refine wpAny_Call_Name_kw (ld_glob I hg hm ?_ hdb)
  refine PySem.W.callWith_K (h₀ := X.base) I.ok.mod.kin M.kp (thn (ha.run pos pins s σ H _ I h) fun us s1 ⟨vs, H1, I1, r, q⟩ => ⟨I1.kIn, ?_⟩) he hpl
  exact run_makeS M F hr hb (hx σ) I1 r q
end
/-- C(..): a new cell, then __init__ -/
def dMake (c : Addr) (s : DSp) (a : DA) (fin : MS → (D → MS → Prop) → MS → Prop) : DE := fun g M X k => a g M X fun xs M1 => s (.ptr M1.length :: xs) (M1 ++ [.ins c []]) (fun e M2 => ∃ fs, M2 = M1 ++ [.ins c fs] ∧ (∀ c ∈ M1, ClnC c) ∧ (∀ f y, e.fld = some (f, y) → Cln y) ∧ X e M1) fun y M2 => y = .non ∧ fin M1 k M2
/-- a game: told of as data from then on -/
def finG (c : Addr) : MS → (D → MS → Prop) → MS → Prop := fun M1 k M2 => ∃ n s ws, M2 = M1 ++ [.ins c (gmF n s ws)] ∧ (∀ c ∈ M1, ClnC c) ∧ k (.gm n s ws) M1
/-- an own object: it stays a cell -/
def finC : MS → (D → MS → Prop) → MS → Prop := fun M1 k M2 => k (.ptr M1.length) M2
section
variable {X : Cx} {C : Cn} {W : WX} {a : Expr} {pos p : Pos} {es : List Expr} {ea : DA} {x : Str} {k : Nat} {cl f : Addr} {fd : FuncData} {ps : List Str} {s : DSp}
theorem make_hs {th : List Addr} {F H : Hp} {M : MS} {q dx : Addr} (h : Hs C th F H M) (hq : H q = none) (hd : H dx = none) (ne : dx ≠ q) : Hs C (th ++ [q]) F (upd (upd H dx (.own q)) q (.ins cl dx [])) (M ++ [.ins cl []]) ∧ (th ++ [q])[M.length]? = some q := by
  have h1 := h.grow (Ex.nw (o := .own q) hd)
  have hq1 : upd H dx (.own q) q = none := by rw [upd_ne ne.symm]; exact hq
  refine ⟨h1.push (c := .ins cl []) hq1 ⟨h1.ex.fr hq1, dx, [], upd_same, trivial⟩, ?_⟩
  rw [List.getElem?_append_right (by rw [h.len]; exact Nat.le_refl _), h.len, Nat.sub_self]
  rfl
theorem excAt_cut {th t0 : List Addr} {F H : Hp} {e : Exn} {cls : Value} {dd : Option Addr} (c : ∀ f y, e.fld = some (f, y) → Cln y) (x : ExcAt C th F H e cls dd) : ExcAt C t0 F H e cls dd := by
  obtain ⟨x1, x2⟩ := x
  refine ⟨x1, ?_⟩
  cases hf : e.fld with
  | none => rw [hf] at x2; exact x2
  | some fy =>
    obtain ⟨f, y⟩ := fy
    rw [hf] at x2
    obtain ⟨ad, v, h1, h2, h3⟩ := x2
    exact ⟨ad, v, h1, h2, Rep.cut (c f y hf) h3⟩
theorem de_make {fin : MS → (D → MS → Prop) → MS → Prop} (MK : Mk X.K cl f) (F : FnOk X.prog X.w X.K X.mg X.base (L2.CX X.prog X.w) k f fd ps (upSp C s)) (hr : Room (k + 1) X.A) (hm : X.mg x = some (.ref cl)) (hb : Binds X.K fd ps []) (tk : Takes X W)
    (hfin : ∀ (th th0 : List Addr) (F F0 H : Hp) (M1 M2 : MS) (q : Addr) (P : D → MS → Prop) (Q : VK), Hs C th F H M2 → th0.length = M1.length → Le (th0 ++ [q]) F0 th F → fin M1 P M2 →
      (∀ (y : D) (M' : MS) (v : V) (th' : List Addr) (F' : Hp), P y M' → Hs C th' F' H M' → Le th0 F0 th' F' → Rep C th' F' v y → Q v H) → Q (.ref q) H)
    (ha : PA X (a :: es) (upA C W ea)) (hg : Gl X x := by rfl) (hdb : (x == ("__debug__" : Str)) = false := by decide) (he : starEach (a :: es) X.env = (false, eval a X.env) :: starEach es X.env := by rfl) (hpl : (backTo pos (starEach es X.env)).any (·.1) = false := by rfl) :
    PE X (.Call (.Name x p) (a :: es) [] pos) (upE C W (dMake cl s ea fin)) :=
  pe_imp (pe_makeS MK F hr hg hm hb (fun σ => passAt tk σ) ha hdb he hpl) fun σ H Q h => by
    obtain ⟨th, F, g, M, X', P, p, h⟩ := h
    refine p.bind h fun xs vs t1 F1 H1 M1 h1 rx l1 p1 => ?_
    intro q dx hq hd ne
    obtain ⟨h2, at2⟩ := make_hs (cl := cl) p1.at_.hs hq hd ne
    have lp : Le t1 F1 (t1 ++ [q]) F1 := Le.push
    refine ⟨t1 ++ [q], F1, M1 ++ [.ins cl []], .ptr M1.length :: xs, _, _, h2, .cons (.ptr at2) (rx.mono lp), h1, fun y M2 v t2 F2 H2 q2 hs2 l2 r2 => ?_, fun e M2 t2 F2 H2 cls dd q2 hs2 l2 x2 => ?_⟩
    · obtain ⟨e, q2⟩ := q2
      subst e
      cases r2
      exact ⟨rfl, hfin t2 t1 F2 F1 H2 M1 M2 q P Q hs2 p1.at_.hs.len l2 q2 fun y M' v th' F' qq hh ll rr => p1.ok y M' v th' F' H2 qq hh ll rr⟩
    · obtain ⟨fs, e2, hc, cy, q2⟩ := q2
      subst e2
      exact p1.ex e M1 _ F2 H2 cls dd q2 (hs2.pop hc) (le_take (lp.tr l2) (by rw [p1.at_.hs.len]; exact Nat.le_refl _)) (excAt_cut cy x2)
theorem de_makeG (hG : cl = C.G) (MK : Mk X.K cl f) (F : FnOk X.prog X.w X.K X.mg X.base (L2.CX X.prog X.w) k f fd ps (upSp C s)) (hr : Room (k + 1) X.A) (hm : X.mg x = some (.ref cl)) (hb : Binds X.K fd ps []) (tk : Takes X W)
    (ha : PA X (a :: es) (upA C W ea)) (hg : Gl X x := by rfl) (hdb : (x == ("__debug__" : Str)) = false := by decide) (he : starEach (a :: es) X.env = (false, eval a X.env) :: starEach es X.env := by rfl) (hpl : (backTo pos (starEach es X.env)).any (·.1) = false := by rfl) :
    PE X (.Call (.Name x p) (a :: es) [] pos) (upE C W (dMake cl s ea (finG cl))) :=
  de_make MK F hr hm hb tk (fun th th0 F F0 H M1 M2 q P Q hs hl l fin ok => by
    obtain ⟨n, s, ws, e, hc, qq⟩ := fin
    subst e
    have at2 : (th0 ++ [q])[M1.length]? = some q := by
      rw [List.getElem?_append_right (by rw [hl]; exact Nat.le_refl _), hl, Nat.sub_self]
      rfl
    have et := l.pre _ _ at2
    have eg : (M1 ++ [Cell.ins cl (gmF n s ws)])[M1.length]? = some (.ins cl (gmF n s ws)) := by
      rw [List.getElem?_append_right (Nat.le_refl _), Nat.sub_self]
      rfl
    obtain ⟨nF, dx, gs, hv, rf⟩ := hs.cell _ _ _ eg et
    have l2 : Le (th.take M1.length) F (th.take M1.length) (upd F q (.ins cl dx gs)) := Le.nw nF
    refine ok (.gm n s ws) M1 (.ref q) _ _ qq (hs.popFreeze hc et nF hv) ((le_take ((Le.push (p := q)).tr l) (by rw [hl]; exact Nat.le_refl _)).tr l2) ?_
    match gs, rf with
    | [(f1, v1), (f2, v2), (f3, v3)], ⟨e1, r1, e2, r2, e3, r3, _⟩ =>
      subst e1 e2 e3
      cases r1
      cases r2
      cases r3 with
      | @tup t vs _ ht rs =>
        have ei := rs.ofI
        subst ei
        subst hG
        exact .gm upd_same (by rw [upd_ne (ne_of_none ht nF)]; exact ht)) ha hg hdb he hpl
theorem de_makeC (MK : Mk X.K cl f) (F : FnOk X.prog X.w X.K X.mg X.base (L2.CX X.prog X.w) k f fd ps (upSp C s)) (hr : Room (k + 1) X.A) (hm : X.mg x = some (.ref cl)) (hb : Binds X.K fd ps []) (tk : Takes X W)
    (ha : PA X (a :: es) (upA C W ea)) (hg : Gl X x := by rfl) (hdb : (x == ("__debug__" : Str)) = false := by decide) (he : starEach (a :: es) X.env = (false, eval a X.env) :: starEach es X.env := by rfl) (hpl : (backTo pos (starEach es X.env)).any (·.1) = false := by rfl) :
    PE X (.Call (.Name x p) (a :: es) [] pos) (upE C W (dMake cl s ea finC)) :=
  de_make MK F hr hm hb tk (fun th th0 F F0 H M1 M2 q P Q hs hl l fin ok => by
    have at2 : (th0 ++ [q])[M1.length]? = some q := by
      rw [List.getElem?_append_right (by rw [hl]; exact Nat.le_refl _), hl, Nat.sub_self]
      rfl
    exact ok _ M2 (.ref q) th F fin hs ((Le.push (p := q)).tr l) (.ptr (l.pre _ _ at2))) ha hg hdb he hpl
end

/-! ### isinstance of built-in classes -/
def tyN (x : D) (M : MS) : String := match x with
  | .non => "NoneType"
  | .bl _ => "bool"
  | .int _ => "int"
  | .str _ => "str"
  | .lst _ => "list"
  | .tup _ => "tuple"
  | .dct => "dict"
  | .ptr j => match M[j]? with
    | some (.lst _) => "list"
    | _ => ""
  | _ => ""
def isB (t n : String) : Bool := t == n || (t == "bool" && n == "int")
def tyL : List String := ["NoneType", "bool", "int", "str", "list", "tuple", "dict"]
theorem kit_tab : ∀ t ∈ tyL, ∀ n ∈ tyL, kitB t n = some (isB t n) := by decide +kernel
abbrev rdIsi : RA := fun xs M k => ∃ x n, xs = [x, .ty n] ∧ tyN x M ∈ tyL ∧ n ∈ tyL ∧ k (.bl (isB (tyN x M) n))
theorem tyx_at {C : Cn} {th : List Addr} {F H : Hp} {M : MS} {v : V} {x : D} (h : Hs C th F H M) (r : Rep C th F v x) (e : tyN x M ∈ tyL) : TyX C.K H v (.type (tyN x M)) := by
  cases r with
  | non => exact .base .non
  | bl b => exact .base (.bl b)
  | int i => exact .base (.int i)
  | str s => exact .base (.str s)
  | lst q r => exact .base (.lst (h.ex _ _ q))
  | tup q r => exact .base (.tup (h.ex _ _ q))
  | dct q => exact .base (.dK (h.ex _ _ q))
  | @ptr a j q =>
    have key : (∃ ys, M[j]? = some (.lst ys)) ∨ tyN (.ptr j) M = "" := by
      unfold tyN
      dsimp only
      split
      · rename_i ys hm
        exact .inl ⟨ys, hm⟩
      · exact .inr rfl
    rcases key with ⟨ys, hm⟩ | key
    · obtain ⟨_, vs, q2, r⟩ := h.cell _ _ _ hm q
      have e2 : tyN (.ptr j) M = "list" := by simp [tyN, hm]
      rw [e2]
      exact .base (.lst q2)
    · rw [key] at e
      exact absurd e (by decide)
  | gm _ _ => exact absurd e (by simp [tyN, tyL])
  | scr _ => exact absurd e (by simp [tyN, tyL])
  | ty _ => exact absurd e (by simp [tyN, tyL])
  | gcl => exact absurd e (by simp [tyN, tyL])
  | exc _ _ _ => exact absurd e (by simp [tyN, tyL])
  | exn _ => exact absurd e (by simp [tyN, tyL])
  | ecl _ => exact absurd e (by simp [tyN, tyL])
theorem lk_isi {C : Cn} : LkA C (rIsi C.K) rdIsi := by
  rintro xs M k vs th F H Q hs rx ⟨x, n, rfl, e1, e2, q⟩ kk
  obtain ⟨v, w, rfl, r, r2⟩ := rx.two'
  cases r2
  exact ⟨v, .ty n, .type (tyN x M), .type n, _, rfl, .ty n, tyx_at hs r e1, kit_ty (kit_tab _ e1 _ e2), kk _ _ F H q hs Le.rfl (.bl _)⟩
section
variable {X : Cx} {C : Cn} {W : WX} {a b : Expr} {pos p : Pos} {ea : DA} {x : Str}
theorem de_ty {n : String} (hm : X.mg x = none) (hv : bootBuiltins x = some (.type n) := by decide +kernel) (hg : Gl X x := by rfl) (hn : x ≠ "__name__" := by decide) (hd : (x == ("__debug__" : Str)) = false := by decide) : PE X (.Name x pos) (upE C W (dC (.ty n))) :=
  de_c (pe_bltn hg hm hv (v := .ty n) rfl hn hd) fun _ _ => .ty n
theorem b_isi (hm : X.mg "isinstance" = none) (ha : PA X [a, b] (upA C W ea)) (hK : X.K = C.K := by rfl) (hg : Gl X "isinstance" := by rfl) (he : starEach [a, b] X.env = (false, eval a X.env) :: starEach [b] X.env := by rfl) (hpl : (backTo pos (starEach [b] X.env)).any (·.1) = false := by rfl) :
    PE X (.Call (.Name "isinstance" p) [a, b] [] pos) (upE C W (dCB rdIsi ea)) := de_cb (hK ▸ call_isi) lk_isi hm (by decide +kernel) ha hg (by decide) (by decide) he hpl
end
end PD

/-! PD: further rules. -/
namespace PD
open PySem PySem.Spec PyProof.Rows L2

/-- a def of the text -/
structure Df (K : PySem.W.Frag) (mg : Str → Option Value) (nm qual : Str) (st : Stmt) (ps : List Str) (f : Addr) (fd : FuncData) : Prop where
  fn : Fun K nm qual st f fd
  g : mg nm = some (.ref f)
  b : Binds K fd ps []

section
variable {X : Cx} {C : Cn} {W : WX} {a b c e : Expr} {da db dc : DE} {pos p : Pos} {es : List Expr} {ea : DA} {x : Str}
theorem de_globE {i : Int} (hm : ∃ t, X.mg x = some (.int i t)) (hg : Gl X x := by rfl) (hd : (x == ("__debug__" : Str)) = false := by decide) : PE X (.Name x pos) (upE C W (dI i)) := by
  obtain ⟨t, h⟩ := hm
  exact de_globI hg h hd
theorem de_globSE {i : Str} (hm : ∃ t, X.mg x = some (.str i t)) (hg : Gl X x := by rfl) (hd : (x == ("__debug__" : Str)) = false := by decide) : PE X (.Name x pos) (upE C W (dC (.str i))) := by
  obtain ⟨t, h⟩ := hm
  exact de_globS hg h hd
def dNeg (d : DE) : DE := dUn (fun x _ k => ∃ i, x = .int i ∧ k (.int (-i))) d
def sPar3 (i j l : Nat) (d : DA) : DS := fun g M N => d g M (fun e M' => N.ex e g M') fun ys M' => ∃ y z w, ys = [y, z, w] ∧ N.nx (((g.set i (some y)).set j (some z)).set l (some w)) M'
theorem s_par3 {i j l : Nat} {x y z : Str} {px py pz pt : Pos} {kt k2 : Nat} {pt2 : Pos} (hc : X.calm = true) (hN : X.N.Nodup) (ha : PA X [a, b, c] (upA C W ea)) (hi : X.N[i]? = some x := by rfl) (hj : X.N[j]? = some y := by rfl) (hl : X.N[l]? = some z := by rfl)
    (hij : i ≠ j := by decide) (hil : i ≠ l := by decide) (hjl : j ≠ l := by decide)
    (hx : X.env.scope.names.lookup x = some .local := by rfl) (hy : X.env.scope.names.lookup y = some .local := by rfl) (hz : X.env.scope.names.lookup z = some .local := by rfl)
    (hw : swappedStores [.Tuple [.Name x px, .Name y py, .Name z pz] kt pt] (.Tuple [a, b, c] k2 pt2) X.env = pure (some [x, y, z]) := by rfl)
    (hs : swapsWithSole [.Tuple [.Name x px, .Name y py, .Name z pz] kt pt] (.Tuple [a, b, c] k2 pt2) pos.line X.env = pure false := by rfl) :
    PS X (.Assign [.Tuple [.Name x px, .Name y py, .Name z pz] kt pt] (.Tuple [a, b, c] k2 pt2) pos) (upS C W (sPar3 i j l ea)) := ps_imp (ps_par3 hc hN hi hj hl hij hil hjl hx hy hz ha hw hs) fun De σ H h => by
  obtain ⟨th, F, g, M, N, a, k, h⟩ := h
  refine (k.pk (rel := rL C) a fun ys M' v th' F' H' p h l r => ?_).mk_up h
  obtain ⟨y, z, w, e, q⟩ := p
  subst e
  obtain ⟨v, vs, rfl, r1, r2⟩ := RepL.cons' r
  obtain ⟨u, w, rfl, r2, r3⟩ := RepL.two' r2
  exact ⟨v, u, w, rfl, k.nx _ M' _ th' F' H' q ⟨h.hs, ((h.sl.set _ r1).set _ r2).set _ r3⟩ l⟩
theorem s_augAdd {i : Nat} {pos' : Pos} (hN : X.N.Nodup) (he : PE X e (upE C W da)) (hi : X.N[i]? = some x := by rfl) (hx : Loc X.env.scope x := by first | exact Or.inl rfl | exact Or.inr rfl) (hf : X.fn x = true ∨ X.env.scope.names.lookup x = some .local := by first | exact .inl rfl | exact .inr rfl) :
    PS X (.AugAssign (.Name x pos') .Add e pos) (upS C W (sAug i rdAdd da)) := ps_imp (ps_aug hN hi hx he ip_add hf) fun De σ H h => by
  obtain ⟨th, F, g, M, N, a, k, x, ex, h⟩ := h
  obtain ⟨v, ev, rx⟩ := a.sl.2 i x ex
  refine ⟨v, ev, (k.pk (rel := rD C) a fun y M' w th' F' H' p hA l r => ?_).mk_up h⟩
  obtain ⟨m, n, rfl, rfl, q⟩ := p
  cases rx
  cases r
  exact ⟨m, n, rfl, rfl, k.nx _ M' _ th' F' H' q ⟨hA.hs, hA.sl.set i (.int _)⟩ l⟩

/-! ### list(range(..)) -/
def rngC (a c : Int) (n : Nat) : List Int := (List.range n).map fun (i : Nat) => a + (i : Int) * c
theorem vals_rgC {a c : Int} {n : Nat} {acc : Array Value} (h : ItemsOf (fun i v => ∃ t, v = .int (a + i * c) t) acc n) : Vals ((rngC a c n).map V.int) acc.toList := by
  have e : acc.toList.length = n := by rw [Array.length_toList]; exact h.1
  unfold rngC
  rw [List.map_map, ← e]
  refine vals_of_get acc.toList _ fun j u hj => ?_
  obtain ⟨t, rfl⟩ := h.2 j u (by rw [← hj, Array.getElem?_toList])
  exact ⟨t, rfl⟩
def tLR3 (t : TA) : TE := fun σ H Q => t σ H fun vs H1 => ∃ (a b c : Int) (n : Nat), vs = [.int a, .int b, .int c] ∧ RgC a b c n ∧ n ≤ 2 ^ 24 ∧ ∀ q, H1 q = none → Q (.ref q) (upd H1 q (.lst ((rngC a c n).map V.int)))
theorem pe_LR3 {t : TA} {p2 pos2 : Pos} (hc : X.calm = true) (hm : X.mg "list" = none) (hr : X.mg "range" = none) (ha : PA X [a, b, c] t) (hg : Gl X "list" := by rfl) (hg2 : Gl X "range" := by rfl)
    (na : starEach [.Call (.Name "range" p2) [a, b, c] [] pos2] X.env = (false, eval (.Call (.Name "range" p2) [a, b, c] [] pos2) X.env) :: starEach [] X.env := by rfl)
    (hs : starEach [a, b, c] X.env = (false, eval a X.env) :: starEach [b, c] X.env := by rfl) (hpl : (backTo pos2 (starEach [b, c] X.env)).any (·.1) = false := by rfl) :
    PE X (.Call (.Name "list" p) [.Call (.Name "range" p2) [a, b, c] [] pos2] [] pos) (tLR3 t) := by
  refine ⟨fun pins s σ H Q I h => ?_⟩
  refine Call_ (ld_blt I hg hm boot_list (PyProof.Rows.callWith_type1 (args_cons ?_ na) na))
  refine Call_ (ld_blt I hg2 hr boot_range (PyProof.Rows.callWith_type1 (thn (ha.run pos2 pins s σ H _ I h) fun us s1 ⟨vs, H1, I1, r1, q1⟩ => ?_) hs hpl))
  obtain ⟨i, j, k, n, e, ⟨c0, c1, c2, c3⟩, hn, q⟩ := q1
  subst e
  cases r1 with
  | cons r rr =>
    cases rr with
    | cons r' rr =>
      cases rr with
      | cons r'' rr =>
        cases rr
        obtain ⟨t, rfl⟩ := r
        obtain ⟨t', rfl⟩ := r'
        obtain ⟨t'', rfl⟩ := r''
        refine call_range_3 c0 (args_nil ?_) (.inl (PyProof.noPylong_small c1))
        have I2 : Inv X pins σ H1 { s1 with heap := s1.heap.push { cls := .type "range", data := .fields #[.int i t, .int j t', .int k t''] } } := I1.kept (t' := s1.toks) fun b o e => Heap.get?_push_of_some _ e
        refine call_list_range (n := n) (I2.ok.hd hc) (IsRange.new ..) c2 c3 hn fun h' tk acc c' hk e' hi => ?_
        refine ⟨.ref _, upd H1 _ (.lst ((rngC i k n).map V.int)), I2.laid hk (Nat.le_refl _) (show ObjOk X.prog X.w _ _ _ (.lst _) from ⟨?_, acc.toList, c', vals_rgC hi, ?_⟩), rfl, q _ (I2.hok.fresh (Nat.le_refl _))⟩
        · rw [List.length_map]; unfold rngC; rw [List.length_map, List.length_range, sizeLine_eq]; omega
        · rw [Array.toArray_toList]; exact e'
def dLR3 (d : DA) : DE := fun g M X k => d g M X fun xs M1 => ∃ (a b c : Int) (n : Nat), xs = [.int a, .int b, .int c] ∧ RgC a b c n ∧ n ≤ 2 ^ 24 ∧ k (.lst (iL (rngC a c n))) M1
theorem b_listR {p2 pos2 : Pos} (hm : X.mg "list" = none) (hr : X.mg "range" = none) (hc : X.calm = true) (ha : PA X [a, b, c] (upA C W ea)) (hg : Gl X "list" := by rfl) (hg2 : Gl X "range" := by rfl)
    (na : starEach [.Call (.Name "range" p2) [a, b, c] [] pos2] X.env = (false, eval (.Call (.Name "range" p2) [a, b, c] [] pos2) X.env) :: starEach [] X.env := by rfl)
    (hs : starEach [a, b, c] X.env = (false, eval a X.env) :: starEach [b, c] X.env := by rfl) (hpl : (backTo pos2 (starEach [b, c] X.env)).any (·.1) = false := by rfl) :
    PE X (.Call (.Name "list" p) [.Call (.Name "range" p2) [a, b, c] [] pos2] [] pos) (upE C W (dLR3 ea)) := pe_imp (pe_LR3 hc hm hr ha hg hg2 na hs hpl) fun σ H Q h => by
  obtain ⟨th, F, g, M, X', P, p, h⟩ := h
  refine p.bind h fun xs vs t1 F1 H1 M1 h1 rx l1 p1 => ?_
  obtain ⟨i, j, k, n, rfl, hr, hn, q⟩ := h1
  obtain ⟨v, vs, rfl, r1, r2⟩ := RepL.cons' rx
  obtain ⟨u, w, rfl, r2, r3⟩ := RepL.two' r2
  cases r1
  cases r2
  cases r3
  exact ⟨i, j, k, n, rfl, hr, hn, fun q' hq => p1.new hq q fun l => .lst upd_same (RepL.iL _)⟩
end

/-! ### x in xs -/
def flD : D → Bool
  | .non => true
  | .bl _ => true
  | .int _ => true
  | .str _ => true
  | _ => false
def inD (x : D) (xs : List D) : Bool := xs.any fun y => eqD y x
abbrev rdIn : D → D → MS → (D → Prop) → Prop := fun x y M k => ∃ xs, seqOf y M = some xs ∧ flD x = true ∧ xs.all flD = true ∧ k (.bl (inD x xs))
abbrev rdNin : D → D → MS → (D → Prop) → Prop := fun x y M k => ∃ xs, seqOf y M = some xs ∧ flD x = true ∧ xs.all flD = true ∧ k (.bl (!inD x xs))
section
variable {C : Cn} {th : List Addr} {F H : Hp} {M : MS}
theorem fl_at {v : V} {x : D} (r : Rep C th F v x) (h : flD x = true) : flatV v = true := by
  cases r <;> first | rfl | cases h
theorem fl_all : ∀ {vs : List V} {xs : List D}, RepL C th F vs xs → xs.all flD = true → vs.all flatV = true
  | _, _, .nil, _ => rfl
  | _, _, .cons h r, e => by
    rw [List.all_cons, Bool.and_eq_true] at e ⊢
    exact ⟨fl_at h e.1, fl_all r e.2⟩
theorem eq_fl {v w : V} {x y : D} (r : Rep C th F v x) (s : Rep C th F w y) (h1 : flD x = true) (h2 : flD y = true) : eqV v w = eqD x y := by
  cases r <;> first | (cases h1; done) | (cases s <;> first | (cases h2; done) | rfl | (unfold eqV eqD D.py PyData.eqv; rfl))
theorem in_fl {w : V} {y : D} (s : Rep C th F w y) (h2 : flD y = true) : ∀ {vs : List V} {xs : List D}, RepL C th F vs xs → xs.all flD = true → inV w vs = inD y xs
  | _, _, .nil, _ => rfl
  | _, _, .cons h r, e => by
    rw [List.all_cons, Bool.and_eq_true] at e
    unfold inV inD
    rw [List.any_cons, List.any_cons, eq_fl h s e.1 h2]
    have ih := in_fl s h2 r e.2
    unfold inV inD at ih
    rw [ih]
theorem lk_in : Lk2 C (rIn C.K false) rdIn := by
  rintro x y M k v w th F H Q hs rx ry ⟨xs, e, f1, f2, q⟩ kk
  obtain ⟨a, vs, rfl, h1, r1⟩ := seq_at hs ry e
  refine ⟨a, vs, rfl, h1.elim (fun z => .inl (SqL.of z)) (fun z => .inr (SqT.of z)), fl_at rx f1, fl_all r1 f2, ?_⟩
  rw [in_fl rx f1 r1 f2]
  exact kk _ _ F H q hs Le.rfl (.bl _)
theorem lk_nin : Lk2 C (rIn C.K true) rdNin := by
  rintro x y M k v w th F H Q hs rx ry ⟨xs, e, f1, f2, q⟩ kk
  obtain ⟨a, vs, rfl, h1, r1⟩ := seq_at hs ry e
  refine ⟨a, vs, rfl, h1.elim (fun z => .inl (SqL.of z)) (fun z => .inr (SqT.of z)), fl_at rx f1, fl_all r1 f2, ?_⟩
  rw [in_fl rx f1 r1 f2]
  exact kk _ _ F H q hs Le.rfl (.bl _)
end
section
variable {X : Cx} {C : Cn} {W : WX} {a b c e : Expr} {da db dc : DE} {pos p : Pos} {es : List Expr} {ea : DA} {x : Str}
theorem e_in (ha : PE X a (upE C W da)) (hb : PE X b (upE C W db)) (hm : behindInMarks .In b = false := by rfl) (hK : X.K = C.K := by rfl) : PE X (.Compare a [.In] [b] pos) (upE C W (dOp rdIn da db)) := de_cmp (hK ▸ op_in_seq) lk_in ha hb hm
theorem e_nin (ha : PE X a (upE C W da)) (hb : PE X b (upE C W db)) (hm : behindInMarks .NotIn b = false := by rfl) (hK : X.K = C.K := by rfl) : PE X (.Compare a [.NotIn] [b] pos) (upE C W (dOp rdNin da db)) := de_cmp (hK ▸ op_notIn_seq) lk_nin ha hb hm
theorem t_in (ha : PE X a (upE C W da)) (hb : PE X b (upE C W db)) (hm : behindInMarks .In b = false := by rfl) (hK : X.K = C.K := by rfl) : PT X (.Compare a [.In] [b] pos) (upT C W (dB (dOp rdIn da db))) := dt_cmp (hK ▸ op_in_seq) lk_in ha hb hm
theorem t_nin (ha : PE X a (upE C W da)) (hb : PE X b (upE C W db)) (hm : behindInMarks .NotIn b = false := by rfl) (hK : X.K = C.K := by rfl) : PT X (.Compare a [.NotIn] [b] pos) (upT C W (dB (dOp rdNin da db))) := dt_cmp (hK ▸ op_notIn_seq) lk_nin ha hb hm
/-- sorted of ints, fewer than 64 -/
abbrev rdSort : RA := fun xs M k => ∃ x l, xs = [x] ∧ lstOf x M = some (iL l) ∧ l.length < 64 ∧ ∀ l' : List Int, l'.Perm l → l'.Pairwise (· ≤ ·) → k (.lst (iL l'))
theorem lk_sort : LkA C (rSorted C.K) rdSort := by
  rintro xs M k vs th F H Q hs rx ⟨x, l, rfl, e, hl, q⟩ kk
  obtain ⟨v, rfl, r⟩ := rx.one'
  obtain ⟨a, ws, rfl, h1, r1⟩ := lst_at hs r e
  have e1 := r1.ofI
  subst e1
  refine ⟨a, l, rfl, SqL.of h1, hl, fun l' p hp ho hn => ?_⟩
  have le : Le th F th (upd F p (.lst (l'.map V.int))) := Le.nw (hs.ex.fr hn)
  exact kk _ _ _ _ (q l' hp ho) (hs.new hn) le (.lst upd_same (RepL.iL _))
theorem b_sort (hm : X.mg "sorted" = none) (ha : PA X [a] (upA C W ea)) (hK : X.K = C.K := by rfl) (hg : Gl X "sorted" := by rfl) (he : starEach [a] X.env = (false, eval a X.env) :: starEach [] X.env := by rfl) : PE X (.Call (.Name "sorted" p) [a] [] pos) (upE C W (dCB rdSort ea)) :=
  de_cb (hK ▸ cr_sorted) lk_sort hm (by decide +kernel) ha hg (by decide) (by decide) he
/-- isinstance with a tuple of classes -/
abbrev rdIsiT : RA := fun xs M k => ∃ (x : D) (ns : List String), xs = [x, .tup (ns.map D.ty)] ∧ tyN x M ∈ tyL ∧ (∀ n ∈ ns, n ∈ tyL) ∧ k (.bl (ns.any fun n => isB (tyN x M) n))
theorem kitAny_of {K : PySem.W.Frag} {t : String} (ht : t ∈ tyL) : ∀ {ns : List String}, (∀ n ∈ ns, n ∈ tyL) → PySem.W.kitAny K (.type t) (ns.map Value.type) = some (ns.any fun n => isB t n)
  | [], _ => rfl
  | n :: ns, h => by
    rw [List.map_cons, List.any_cons]
    have e := kit_ty (K := K) (kit_tab t ht n (h n List.mem_cons_self))
    refine kitAny_cons e (fun e2 => ?_) fun e2 => by rw [e2]; rfl
    rw [e2]
    exact kitAny_of ht fun m hm => h m (List.mem_cons_of_mem _ hm)
theorem clsv_of {th : List Addr} {F : Hp} : ∀ {ns : List String} {vs : List V}, RepL C th F vs (ns.map D.ty) → Paired ClsV vs (ns.map Value.type)
  | [], _, .nil => .nil
  | n :: ns, _, .cons h r => by
    cases h
    exact .cons (.ty n) (clsv_of r)
theorem lk_isiT : LkA C (rIsiT C.K) rdIsiT := by
  rintro xs M k vs th F H Q hs rx ⟨x, ns, rfl, e1, e2, q⟩ kk
  obtain ⟨v, w, rfl, r, r2⟩ := rx.two'
  cases r2 with
  | @tup ad cs _ hf rs => exact ⟨v, ad, cs, .type (tyN x M), ns.map Value.type, _, rfl, hs.ex _ _ hf, clsv_of rs, tyx_at hs r e1, kitAny_of e1 e2, kk _ _ F H q hs Le.rfl (.bl _)⟩
theorem b_isiT (hm : X.mg "isinstance" = none) (ha : PA X [a, b] (upA C W ea)) (hK : X.K = C.K := by rfl) (hg : Gl X "isinstance" := by rfl) (he : starEach [a, b] X.env = (false, eval a X.env) :: starEach [b] X.env := by rfl) (hpl : (backTo pos (starEach [b] X.env)).any (·.1) = false := by rfl) :
    PE X (.Call (.Name "isinstance" p) [a, b] [] pos) (upE C W (dCB rdIsiT ea)) := de_cb (hK ▸ call_isiT) lk_isiT hm (by decide +kernel) ha hg (by decide) (by decide) he hpl
/-- is of truth values -/
abbrev rdIsB : D → D → MS → (D → Prop) → Prop := fun x y _ k => ∃ a b : Bool, x = .bl a ∧ y = .bl b ∧ k (.bl (decide (a = b)))
abbrev rdNotB : D → D → MS → (D → Prop) → Prop := fun x y _ k => ∃ a b : Bool, x = .bl a ∧ y = .bl b ∧ k (.bl (!decide (a = b)))
theorem lk_isb : Lk2 C rIsB rdIsB := by
  rintro x y M k v w th F H Q hs rx ry ⟨a, b, rfl, rfl, q⟩ kk
  cases rx
  cases ry
  exact ⟨a, b, rfl, rfl, kk _ _ F H q hs Le.rfl (.bl _)⟩
theorem lk_isnotb : Lk2 C rNotB rdNotB := by
  rintro x y M k v w th F H Q hs rx ry ⟨a, b, rfl, rfl, q⟩ kk
  cases rx
  cases ry
  exact ⟨a, b, rfl, rfl, kk _ _ F H q hs Le.rfl (.bl _)⟩
theorem e_isb (ha : PE X a (upE C W da)) (hb : PE X b (upE C W db)) : PE X (.Compare a [.Is] [b] pos) (upE C W (dOp rdIsB da db)) := de_cmp op_isBl lk_isb ha hb
theorem t_isb (ha : PE X a (upE C W da)) (hb : PE X b (upE C W db)) : PT X (.Compare a [.Is] [b] pos) (upT C W (dB (dOp rdIsB da db))) := dt_cmp op_isBl lk_isb ha hb
theorem e_isnotb (ha : PE X a (upE C W da)) (hb : PE X b (upE C W db)) : PE X (.Compare a [.IsNot] [b] pos) (upE C W (dOp rdNotB da db)) := de_cmp op_notBl lk_isnotb ha hb
theorem t_isnotb (ha : PE X a (upE C W da)) (hb : PE X b (upE C W db)) : PT X (.Compare a [.IsNot] [b] pos) (upT C W (dB (dOp rdNotB da db))) := dt_cmp op_notBl lk_isnotb ha hb
end
end PD

/-! PD: enumerate(tuple), the law's source of numbers. -/
namespace PySem
open Sem (wp)
theorem pd_enumNew (l : Addr) (items : Array Value) :
    Meets (Builtin.«enumerate.__new__» ⟨[.type "enumerate", .ref l], []⟩) (fun _ R s => s.heap.IsTuple l items ∧
      R (.ok (.ret (.ref (s.heap.push { cls := .type "tuple_iterator", data := .fields #[.ref l, .int 0 0] }).objs.size)))
        { s with heap := (s.heap.push { cls := .type "tuple_iterator", data := .fields #[.ref l, .int 0 0] }).push { cls := .type "enumerate", data := .fields #[.none, .bool false, .ref s.heap.objs.size, rawInt 0, .none, .none] } }) :=
  .of_wp fun prog w A R s h => by
    obtain ⟨hp, g, d, tk, os⟩ := s; obtain ⟨hl, h⟩ := h
    have hsub := sub_enumerate
    have hL : Heap.IsTuple (Shared.heap ⟨hp, g, d, tk, os⟩) l items := hl
    wp_walk using wpAny_pyIter_tuple hL
    refine wpAny_stack_any fun st => wpAny_pure ?_
    split
    · rename_i c _ _ _ _ _
      cases (c == Value.type "enumerate")
      · wp_walk using wpAny_pyIter_tuple hL
        exact ⟨_, rfl, h⟩
      · wp_walk using wpAny_pyIter_tuple hL
        exact ⟨_, rfl, h⟩
    · wp_walk using wpAny_pyIter_tuple hL
      exact ⟨_, rfl, h⟩
section
variable {prog : Program} {w : World} {A : Around} {E : Value → Shared → Prop} {s : Shared}
theorem pd_callEnum {l : Addr} {items : Array Value} {Q : Value → Shared → Prop} (hL : s.heap.IsTuple l items)
    (h : ∀ h', IsEnum h' (s.heap.objs.size + 1) s.heap.objs.size 0 .none → h'.IsTupleIter s.heap.objs.size l 0 → h'.objs.size = s.heap.objs.size + 2 →
      (∀ b o, s.heap.get? b = some o → h'.get? b = some o) → Q (.ref (s.heap.objs.size + 1)) { s with heap := h' }) :
    wpAny (model prog w) A (call (.type "enumerate") [.ref l]) Q E s := by
  refine callType_new F.called_enumerate (by decide) (F.typeCall_enumerate_1 _) (F.newCall_enumerate_1 _) (fun obj => F.args_object_init_2 obj _) F.entry_enumerate_new
    (pd_enumNew l items) ⟨hL, ?_⟩
  have hz : (s.heap.push { cls := .type "tuple_iterator", data := .fields #[.ref l, .int 0 0] }).objs.size = s.heap.objs.size + 1 := Heap.size_push ..
  show _ ∧ _
  rw [hz]
  have he : IsEnum ((s.heap.push { cls := .type "tuple_iterator", data := .fields #[.ref l, .int 0 0] }).push
      { cls := .type "enumerate", data := .fields #[.none, .bool false, .ref s.heap.objs.size, rawInt 0, .none, .none] }) (s.heap.objs.size + 1) s.heap.objs.size 0 .none := by
    have := Heap.get?_push_size (s.heap.push { cls := .type "tuple_iterator", data := .fields #[.ref l, .int 0 0] })
      (o := { cls := .type "enumerate", data := .fields #[.none, .bool false, .ref s.heap.objs.size, rawInt 0, .none, .none] }) rfl
    rw [hz] at this; exact this
  refine ⟨⟨_, he, rfl⟩, h _ he ⟨_, Heap.get?_push_of_some _ (Heap.get?_push_size _ rfl), rfl, rfl⟩ (by rw [Heap.size_push, hz]) fun b o x => Heap.get?_push_of_some _ (Heap.get?_push_of_some _ x)⟩
end
end PySem
namespace PD
open PySem PySem.Spec PyProof.Rows L2
/-- the tuple at a, each item in a new pair -/
def Iet (K : PySem.W.Frag) (a : Addr) : It :=
  ⟨fun i H => ∃ (xs : List V) (x : V), SqT K H a xs ∧ xs[i]? = some x, fun i H v H' => ∃ T x, v = .ref T ∧ H T = none ∧ H' = upd H T (.tup [.int (i : Nat), x]) ∧ ∀ xs, SqT K H a xs → xs[i]? = some x, fun i H => ∃ xs : List V, SqT K H a xs ∧ xs.length ≤ i⟩
theorem turn_enumT {P : Program} {w : World} {K : PySem.W.Frag} {elts : List Expr} {kk : Nat} {tpos : Pos} (a e it : Addr) :
    Turn P w K (.Tuple elts kk tpos) (Iet K a) [e, it] e (fun i h => (∃ old, IsEnum h e it ((i : Nat) : Int) old) ∧ h.IsTupleIter it a i ∧ e ≠ it ∧ a ≠ it ∧ a ≠ e) where
  mem := by simp
  obj := fun i h st b hb => by
    obtain ⟨⟨old, he⟩, ⟨o, ho, hc, hd⟩, _⟩ := st
    have e' : b = e ∨ b = it := by simpa using hb
    rcases e' with z | z
    · rw [z]; exact ⟨_, he, fun v q => nomatch q⟩
    · rw [z]; exact ⟨o, ho, fun v q => by rw [hd] at q; cases q⟩
  keep := fun i h h' st k => let ⟨⟨old, he⟩, hi, hne⟩ := st; ⟨⟨old, k e (by simp) _ he⟩, hi.at fun o q => k it (by simp) o q, hne⟩
  item := by
    intro X hP hw hK hc i pins s σ H E I hf st hg
    subst hP hw hK
    obtain ⟨⟨old, he⟩, hit, hne, hai, hae⟩ := st
    obtain ⟨xs, x, hq, hx⟩ := hg
    obtain ⟨its, rv, p, hz⟩ := I.tuple hq
    obtain ⟨u, hu, ru⟩ := rv.get hx
    have hel : e < s.heap.objs.size := Heap.lt_size he
    have hil : it < s.heap.objs.size := by obtain ⟨_, q, _⟩ := hit; exact Heap.lt_size q
    have D := Draws.tuple (prog := X.prog) (w := X.w) (A := X.A.in1) (I.ok.hd hc) it a hai its.toArray
    have hi : i < its.toArray.size := by
      have := (List.getElem?_eq_some_iff.mp hu).1
      rw [List.size_toArray]; exact this
    refine wpAny_pyNext_enum_itemC D he ⟨hit, p⟩ hi hne (by simp [hne, Ne.symm hae]) fun u' h' tk hP ho hst' hT hsz hk => ?_
    have eu : u' = u := by
      have q : its.toArray[i]? = some u := by simpa using hu
      rw [q] at hP
      exact (Option.some.inj hP).symm
    subst eu
    refine ⟨_, rfl, wpAny_letOwnedTupleGo_enum (s := { s with heap := h', toks := tk + 1 }) ho fun h'' he' sb => ?_⟩
    have hT2 : h''.get? s.heap.objs.size = some { cls := .type "tuple", data := .seq #[.int i tk, u'] } := (sb.2 _ (Nat.ne_of_gt hel)).trans hT
    have new : ObjOk X.prog X.w (upd H s.heap.objs.size (.tup [.int (i : Nat), x])) h'' s.heap.objs.size (.tup [.int (i : Nat), x]) :=
      ⟨by show 2 ≤ sizeLine; decide, [.int i tk, u'], .cons ⟨_, rfl⟩ (.cons ru .nil), ⟨_, hT2, rfl, _, rfl⟩⟩
    have I1 : Inv X pins σ (upd H s.heap.objs.size (.tup [.int (i : Nat), x])) { s with heap := h'', toks := tk + 1 } :=
      I.turnedNew (ch := [e, it]) (fun b ob hb q => (sb.2 b (fun z => hb (by simp [z]))).trans (hk b ob (fun z => hb (by simp [z])) (fun z => hb (by simp [z])) q)) hf (Nat.le_refl _) new
    refine ⟨.ref s.heap.objs.size, _, I1, rfl, ⟨_, x, rfl, I.hok.fresh (Nat.le_refl _), rfl, fun ys hy => by rw [I.tuple_inj hy hq]; exact hx⟩, ⟨⟨u', ?_⟩, hst'.1.at fun o q => (sb.2 it (Ne.symm hne)).trans q, hne, hai, hae⟩, fun b hb => ?_⟩
    · have e1 : ((i + 1 : Nat) : Int) = (i : Int) + 1 := by omega
      rw [e1]; exact he'
    · have hb' : b < s.heap.objs.size := by
        have e' : b = e ∨ b = it := by simpa using hb
        rcases e' with z | z
        · rw [z]; exact hel
        · rw [z]; exact hil
      rw [upd_ne (Nat.ne_of_lt hb')]
      exact (hf b hb).1
  done := by
    intro X hP hw hK hc i pins s σ H E I hf st hg
    subst hP hw hK
    obtain ⟨⟨old, he⟩, hit, hne, hai, hae⟩ := st
    obtain ⟨xs, hq, hx⟩ := hg
    obtain ⟨its, rv, p, hz⟩ := I.tuple hq
    obtain ⟨f0, f1, f2, f3, f4, f5⟩ := hf it (by simp)
    have hl := rv.length
    have hT : s.TypeIs (.ref e) "enumerate" := ⟨_, he, rfl⟩
    unfold pyNext
    refine wpAny_bind (wpAny_attempt (wpAny_callSpecial?_slot (name := Str.ofString "__next__") hT F.slot_enumerate_next
      (wpAny_call_entry F.slot_enumerate_next hT F.entry_enumerate_next ?_ (F.args_enumerate_next_1 _))))
    show wpAny _ _ (field (.ref e) 2 >>= _) _ _ _
    refine wpAny_bind (wpAny_field he rfl (x := .ref it) rfl ?_)
    refine wpAny_bind (wpAny_nextOf_tuple_end (A := X.A.in1) (I.ok.hd hc) hit p (by simp; omega) fun h' x he' hx' => ?_)
    obtain ⟨o, ho, hc⟩ := hx'
    refine wpAny_bind (wpAny_isInstance (T := "StopIteration") (b := true) ⟨o, ho, hc⟩ isSubtype_stop ?_)
    exact wpAny_pure ⟨rfl, I.turned (t' := s.toks) (fun b o hb q => he' b o hb q) f0 f1 f3 f4 f5⟩
  self := fun A i s Q E st h => let ⟨⟨_, he⟩, _⟩ := st; wpAny_pyIter_enum he h
def iEnumT (K : PySem.W.Frag) (ta : TA) : TI := fun σ H R => ta σ H fun vs H1 => ∃ a xs, vs = [.ref a] ∧ SqT K H1 a xs ∧ R (Iet K a) H1
theorem pi_enumT {X : Cx} {e : Expr} {ta : TA} {p pos tpos : Pos} {elts : List Expr} {kk : Nat} (hg : Gl X "enumerate") (hm : X.mg "enumerate" = none) (ha : PA X [e] ta) (hs : starEach [e] X.env = [(false, eval e X.env)] := by rfl) :
    PI X (.Tuple elts kk tpos) (.Call (.Name "enumerate" p) [e] [] pos) (iEnumT X.K ta) := by
  refine ⟨fun pins s σ H R I h => ?_⟩
  refine Call_ (ld_blt I hg hm boot_enumerate (PyProof.Rows.callWith_type1 (thn (ha.run pos pins s σ H _ I h) fun us s1 ⟨vs, H1, I1, r1, q1⟩ => ?_) hs rfl))
  obtain ⟨a, xs, ex, hq, q⟩ := q1
  subst ex
  cases r1 with
  | cons r rr =>
    cases rr
    cases r
    obtain ⟨its, rv, p', hz⟩ := I1.tuple hq
    have hlt : a < s1.heap.objs.size := p'.lt
    refine PySem.pd_callEnum p' fun h' he hit hsz hk => wpAny_pyIter_enum he ?_
    have I2 : Inv X pins σ H1 { s1 with heap := h' } := I1.kept (t' := s1.toks) hk
    refine ⟨s1.heap.objs.size + 1, [s1.heap.objs.size + 1, s1.heap.objs.size], _, _, H1, rfl, I2, turn_enumT a (s1.heap.objs.size + 1) s1.heap.objs.size, ⟨⟨.none, he⟩, hit, Nat.succ_ne_self _, Nat.ne_of_lt hlt, Nat.ne_of_lt (Nat.lt_succ_of_lt hlt)⟩, fun b hb => ?_, q⟩
    have e' : b = s1.heap.objs.size + 1 ∨ b = s1.heap.objs.size := by simpa using hb
    have hle : s1.heap.objs.size ≤ b := by
      rcases e' with z | z
      · rw [z]; exact Nat.le_add_right _ _
      · rw [z]; exact Nat.le_refl _
    exact I1.fpOk hle (I1.hok.fresh hle)
theorem walk_enumT {K : PySem.W.Frag} {a : Addr} {xs : List V} : Walk (Iet K a) xs.length (fun H => SqT K H a xs) (YPair (fun i => some (.int (i : Nat))) (fun i => xs[i]?)) := by
  refine ⟨fun i _ hi q => ⟨xs, xs[i], q, by simp [hi]⟩, fun _ q => ⟨xs, q, Nat.le_refl _⟩, fun i H v H' _ q y => ?_⟩
  obtain ⟨T, x, h1, h2, h3, h4⟩ := y
  exact ⟨T, .int (i : Nat), x, h1, h2, h3, rfl, h4 xs q⟩
def enumD (ys : List D) : List D := (List.range ys.length).map fun (i : Nat) => .tup [.int (i : Int), ys.getD i .non]
theorem enumD_get {ys : List D} {i : Nat} {d : D} (h : ys[i]? = some d) : (enumD ys)[i]? = some (.tup [.int (i : Int), d]) := by
  have hi := (List.getElem?_eq_some_iff.mp h).1
  unfold enumD
  rw [List.getElem?_map, List.getElem?_range hi]
  simp [List.getD, h]
theorem enumD_len (ys : List D) : (enumD ys).length = ys.length := by unfold enumD; rw [List.length_map, List.length_range]
theorem giv_pair {C : Cn} {th : List Addr} {F : Hp} {J : It} {xs : List V} {ys : List D} {G : Hp → Prop} (w : Walk J xs.length G (YPair (fun i => some (.int (i : Nat))) (fun i => xs[i]?))) (hg : ∀ H, Ex F H → G H) (r : RepL C th F xs ys) : Giv C th F J (enumD ys) := by
  refine ⟨G, _, by rw [enumD_len, ← RepL.len r]; exact w, hg, ?_⟩
  rintro i x H H' th1 F1 M1 hi ⟨T, x1, x2, rfl, hn, rfl, e1, e2⟩ hs l
  cases e1
  obtain ⟨d, e3, rd⟩ := r.getv e2
  have l2 : Le th1 F1 th1 (upd F1 T (.tup [.int (i : Nat), x2])) := Le.nw (hs.ex.fr hn)
  exact ⟨_, _, hs.new hn, l2, enumD_get e3, .tup upd_same (.cons (.int _) (.one ((rd.mono l).mono l2)))⟩
def iEnT (d : DA) : DIt := fun g M X k => d g M X fun xs M1 => ∃ ys, xs = [.tup ys] ∧ k (enumD ys) M1
def iEnL (d : DA) : DIt := fun g M X k => d g M X fun xs M1 => ∃ ys, xs = [.lst ys] ∧ k (enumD ys) M1
section
variable {X : Cx} {C : Cn} {W : WX} {a b : Expr} {da : DE} {ea : DA} {pos p tpos : Pos} {elts : List Expr} {kk : Nat}
theorem i_enT (hm : X.mg "enumerate" = none) (ha : PA X [a] (upA C W ea)) (hg : Gl X "enumerate" := by rfl) (hs : starEach [a] X.env = [(false, eval a X.env)] := by rfl) (hK : X.K = C.K := by rfl) : PI X (.Tuple elts kk tpos) (.Call (.Name "enumerate" p) [a] [] pos) (upI C W (iEnT ea)) := ⟨fun pins s σ H R I h => (pi_enumT hg hm ha hs).run pins s σ H R I (by
  obtain ⟨th, F, g, M, X', P, at_, h, ok, ex⟩ := h
  refine ⟨th, F, g, M, X', _, ⟨at_, fun xs M1 v t1 F1 H1 q hs l r => ?_, ex⟩, h⟩
  obtain ⟨ys, e, q⟩ := q
  subst e
  obtain ⟨v0, e0, r0⟩ := RepL.one' r
  subst e0
  cases r0 with
  | @tup ad vs _ hf rs => exact ⟨ad, vs, rfl, SqT.of (hs.ex _ _ hf), ok _ M1 t1 F1 H1 _ q hs l (giv_pair walk_enumT (fun H e => SqT.of (e _ _ hf)) rs)⟩)⟩
theorem i_enL (hm : X.mg "enumerate" = none) (ha : PA X [a] (upA C W ea)) (hg : Gl X "enumerate" := by rfl) (hs : starEach [a] X.env = [(false, eval a X.env)] := by rfl) (hK : X.K = C.K := by rfl) : PI X (.Tuple elts kk tpos) (.Call (.Name "enumerate" p) [a] [] pos) (upI C W (iEnL ea)) := ⟨fun pins s σ H R I h => (pi_enum hg hm ha hs).run pins s σ H R I (by
  obtain ⟨th, F, g, M, X', P, at_, h, ok, ex⟩ := h
  refine ⟨th, F, g, M, X', _, ⟨at_, fun xs M1 v t1 F1 H1 q hs l r => ?_, ex⟩, h⟩
  obtain ⟨ys, e, q⟩ := q
  subst e
  obtain ⟨v0, e0, r0⟩ := RepL.one' r
  subst e0
  cases r0 with
  | @lst ad vs _ hf rs => exact ⟨ad, vs, rfl, SqL.of (hs.ex _ _ hf), ok _ M1 t1 F1 H1 _ q hs l (giv_pair walk_enum (fun H e => SqL.of (e _ _ hf)) rs)⟩)⟩
end

/-! ### the law's source of numbers -/
/-- list + list, a cell -/
def dNewCat (da db : DE) : DE := fun g M X k => da g M X fun x M1 => db g M1 X fun y M2 => ∃ xs ys, lstOf x M2 = some xs ∧ lstOf y M2 = some ys ∧ xs.length + ys.length ≤ sizeLine ∧ k (.ptr M2.length) (M2 ++ [.lst (xs ++ ys)])
/-- a cell of ints becomes the source -/
def dToRng (d : DE) : DE := fun g M X k => d g M X fun y M1 => ∃ j ns, y = .ptr j ∧ M1[j]? = some (.lst (iL ns)) ∧ RngOk ns ∧ k y (M1.set j .rng)
/-- the source in slot i is read as a list of ints; behind an expression it is the source again -/
def sOpen (i : Nat) (s : DS) : DS := fun g M N => ∃ j, g[i]? = some (some (.ptr j)) ∧ M[j]? = some .rng ∧ ∀ ns, RngOk ns → s g (M.set j (.lst (iL ns))) N
def dShut (i : Nat) (d : DE) : DE := fun g M X k => d g M X fun y M1 => ∃ j ns, g[i]? = some (some (.ptr j)) ∧ M1[j]? = some (.lst (iL ns)) ∧ RngOk ns ∧ k y (M1.set j .rng)
/-- x.pop(i), x an own list -/
def dPopAt (dx di : DE) : DE := fun g M X k => dx g M X fun x M1 => ∃ (j : Nat) (zs : List D), x = .ptr j ∧ M1[j]? = some (.lst zs) ∧ di g M1 X fun i M2 => ∃ (xs : List D) (n : Int) (m : Nat) (y : D), M2[j]? = some (.lst xs) ∧ i = .int n ∧ 0 ≤ n ∧ n < 1000 ∧ seqIndex? n xs.length = some m ∧ xs[m]? = some y ∧ k y (M2.set j (.lst (xs.eraseIdx m)))
section
variable {C : Cn} {th : List Addr} {F H : Hp} {M : MS}
theorem Hs.same_cell (h : Hs C th F H M) {j : Nat} {c : Cell} {a : Addr} (ea : th[j]? = some a) (hc : CellAt C th F H a c) : Hs C th F H (M.set j c) := by
  refine ⟨h.ex, by rw [List.length_set]; exact h.len, h.nd, fun k c' b q1 q2 => ?_⟩
  by_cases e : j = k
  · subst e
    rw [ea] at q2
    cases q2
    have hk : j < M.length := by rw [← h.len]; exact (List.getElem?_eq_some_iff.mp ea).1
    rw [List.getElem?_set_self hk] at q1
    cases q1
    exact hc
  · rw [List.getElem?_set_ne e] at q1
    exact h.cell k c' b q1 q2
theorem to_rng {a : Addr} {ns : List Int} (h : CellAt C th F H a (.lst (iL ns))) (ok : RngOk ns) : CellAt C th F H a .rng := by
  obtain ⟨n, vs, hv, r⟩ := h
  exact ⟨n, ns, by rw [hv, r.ofI], ok⟩
theorem RepL.erase {vs : List V} {ds : List D} (r : RepL C th F vs ds) : ∀ n : Nat, RepL C th F (vs.eraseIdx n) (ds.eraseIdx n) := fun n => by
  rw [List.eraseIdx_eq_take_drop_succ, List.eraseIdx_eq_take_drop_succ]
  exact (r.take n).app (r.drop (n + 1))
end
section
variable {X : Cx} {C : Cn} {W : WX} {a b e : Expr} {da db : DE} {ds : DS} {pos : Pos}
theorem de_newCat (ha : PE X a (upE C W da)) (hb : PE X b (upE C W db)) : PE X (.BinOp a .Add b pos) (upE C W (dNewCat da db)) := pe_imp (pe_op op_cat ha hb) fun σ H Q h => by
  obtain ⟨th, F, g, M, X', P, p, h⟩ := h
  refine p.bind h fun x v t1 F1 H1 M1 h1 rx l1 p1 => p1.bind h1 fun y w t2 F2 H2 M2 h2 ry l2 p2 => ?_
  obtain ⟨xs, ys, e1, e2, hz, q⟩ := h2
  obtain ⟨ad, vs, rfl, ha, r1⟩ := lst_at p2.at_.hs (rx.mono l2) e1
  obtain ⟨bd, ws, rfl, hb, r2⟩ := lst_at p2.at_.hs ry e2
  exact ⟨ad, bd, vs, ws, rfl, rfl, ha, hb, by rw [RepL.len r1, RepL.len r2]; exact hz, fun q' hq => p2.cell hq (r1.app r2) q⟩
theorem rng_up : ∀ σ H Q, upE C W (dToRng da) σ H Q → upE C W da σ H Q := fun σ H Q h => by
  obtain ⟨th, F, g, M, X', P, p, h⟩ := h
  refine ⟨th, F, g, M, X', _, ⟨p.at_, fun y M1 v t1 F1 H1 q hs l r => ?_, p.ex⟩, h⟩
  obtain ⟨j, ns, e, em, ok, q⟩ := q
  subst e
  cases r with
  | @ptr ad _ et => exact p.ok _ _ _ t1 F1 H1 q (hs.same_cell et (to_rng (hs.cell _ _ _ em et) ok)) l (.ptr et)
theorem de_toRng (h : PE X e (upE C W da)) : PE X e (upE C W (dToRng da)) := pe_imp h rng_up
theorem de_shut (i : Nat) (h : PE X e (upE C W da)) : PE X e (upE C W (dShut i da)) := pe_imp h fun σ H Q h => by
  obtain ⟨th, F, g, M, X', P, p, h⟩ := h
  refine ⟨th, F, g, M, X', _, ⟨p.at_, fun y M1 v t1 F1 H1 q hs l r => ?_, p.ex⟩, h⟩
  obtain ⟨j, ns, eg, em, ok, q⟩ := q
  obtain ⟨u, _, ru⟩ := p.at_.sl.2 i _ eg
  cases ru with
  | @ptr ad _ et =>
    have et1 := l.pre _ _ et
    exact p.ok _ _ _ t1 F1 H1 q (hs.same_cell et1 (to_rng (hs.cell _ _ _ em et1) ok)) l r
theorem ss_open {st : List Stmt} (i : Nat) (h : PSs X st (upS C W ds)) : PSs X st (upS C W (sOpen i ds)) := pss_imp h fun De σ H h => by
  obtain ⟨th, F, g, M, N, a, k, j, eg, em, h⟩ := h
  obtain ⟨u, _, ru⟩ := a.sl.2 i _ eg
  cases ru with
  | @ptr ad _ et =>
    obtain ⟨n, ns, hv, ok⟩ := a.hs.cell _ _ _ em et
    exact ⟨th, F, g, _, N, ⟨a.hs.same_cell et (show CellAt C th F H ad (.lst (iL ns)) from ⟨n, _, hv, RepL.iL ns⟩), a.sl⟩, k, h ns ok⟩
theorem de_popAt {apos cpos : Pos} (ha : PE X a (upE C W da)) (hb : PE X b (upE C W db)) (hx : PE X (.Call (.Attribute a "pop" apos) [b] [] cpos) (tBM X.K "list" rPopAt (upE C W da) (tCons (upE C W db) tNil))) : PE X (.Call (.Attribute a "pop" apos) [b] [] cpos) (upE C W (dPopAt da db)) := pe_imp hx fun σ H Q h => by
  obtain ⟨th, F, g, M, X', P, p, h⟩ := h
  refine p.bind h fun x v t1 F1 H1 M1 h1 rx l1 p1 => ?_
  obtain ⟨j, zs, rfl, ez, q⟩ := h1
  cases rx with
  | @ptr ad _ et =>
    obtain ⟨_, vz, hz, _⟩ := p1.at_.hs.cell _ _ _ ez et
    refine ⟨.inl ⟨rfl, vz, SqL.of hz⟩, p1.bind q fun i w t2 F2 H2 M2 h2 ri l2 p2 => ?_⟩
    obtain ⟨xs, n, m, y, ex, rfl, hn0, hn1, hm, ey, q⟩ := h2
    cases ri
    have et2 := l2.pre _ _ et
    obtain ⟨nF, vs, hv, rv⟩ := p2.at_.hs.cell _ _ _ ex et2
    obtain ⟨u, eu, ru⟩ := rv.get ey
    refine ⟨ad, vs, n, m, u, rfl, rfl, hv, by omega, by omega, by rw [RepL.len rv]; exact hm, eu, ?_⟩
    exact p2.ok _ _ u t2 F2 _ q (p2.at_.hs.put et2 nF ⟨nF, _, upd_same, rv.erase m⟩) Le.rfl ru
end
end PD

/-! PDk: own errors. -/
namespace PySem
namespace ErrI
open PySem.W PySem.Calls PyProof.Rows PySem.HandSPX
/-! ### the text of __init__ -/
def iA (p1 p2 : Pos) : Arguments := { posonlyargs := [], args := [{ arg := "self", annotation := none, pos := p1 }, { arg := "index", annotation := none, pos := p2 }], vararg := none, kwonlyargs := [], kw_defaults := [], kwarg := none, defaults := [] }
def iB (q1 q2 q3 q4 : Pos) : List Stmt := [.Assign [.Attribute (.Name "self" q1) "index" q2] (.Name "index" q3) q4]
def iS : Scope := { kind := .function, names := [(PySem.Str.ofString "self", .local), (PySem.Str.ofString "index", .local)], isGenerator := false, isCoroutine := false, more := [] }
/-- what the written part says of Low, at C, and of its __init__, at fI -/
structure LowTxt (K : Frag) (mg : Str → Option Value) (nm qn : Str) (C fI : Addr) : Prop where
  gC : mg nm = some (.ref C)
  cls : ∃ nm1 q N bs bm sn sub ab col dd k0 k1 k2 k3 k5, K.lookup C = some (excClassObj nm1 q C N bs bm true sn sub ab col dd k0 k1 k2 k3 k5 "ValueError.__new__") ∧ refsVE bm = true
  sa : findIn K (.ref C) "__setattr__" = some (some (.builtin "object.__setattr__"))
  ga : findIn K (.ref C) "__getattribute__" = some (some (.builtin "BaseException.__getattribute__"))
  gg : findIn K (.ref C) "__getattr__" = some none
  noN : findIn K (.ref C) "index" = some none
  iC : findIn K (.ref C) "__init__" = some (some (.ref fI))
  tC : typeIn K (.ref fI) = some (.type "function")
  kC : keepIn K (.ref C) = true
  exC : subIn K (.ref C) (.type "BaseException") = some true
  tyC : typeIn K (.ref C) = some (.type "type")
  hdC : hasDictIn K C = true
  fn : ∃ (oc : Value) (od : Option Addr) (doc pm : Value) (an : Option Addr) (cdv ct : Value) (osl : Array (Option Value)) (p1 p2 q1 q2 q3 q4 : Pos),
    K.lookup fI = some ⟨oc, od, .func (fnOf "__init__" qn (iA p1 p2) (iB q1 q2 q3 q4) iS .none .none doc pm an cdv ct), osl⟩ ∧ codeIn K cdv qn = true
theorem one_size (v : Value) : [v].length ≤ sizeLine := by
  rw [sizeLine_eq]
  exact (by decide : 1 ≤ 16777216)
theorem kept_but {K : Frag} {h h' : Heap} {x : Addr} (X : K.In h) (hx : K.lookup x = none) (k : ∀ b o, b ≠ x → h.get? b = some o → h'.get? b = some o) : K.In h' := fun a o e =>
  k a o (fun z => by rw [z, hx] at e; cases e) (X a o e)
theorem ldC {M : Model} {s : Shared} {name : Str} {scope : Scope} {L a : Addr} {cd : Value} {m : Str → Option Value} {x : Str} {pos : Pos} {v : Value} {Q : Value → Shared → Prop} {A : Around} {E : Value → Shared → Prop} (hn : s.heap.Ns L m) (hv : m x = some v) (h : Q v s)
    (hk : scope.kind = .function := by rfl) (hl : (envOfC name scope L a cd).kindOf x = some .local := by rfl) (hd : (x == ("__debug__" : Str)) = false := by decide) :
    wpAny M A (eval (.Name x pos) (envOfC name scope L a cd)) Q E s := wpAny_Name (wpAny_loadName_local hk hl hn hv h) hd
/-- what __init__ leaves of a fresh exception at x -/
structure InitEnd (h h' : Heap) (x C dx t1 : Addr) (v : Value) : Prop where
  keep : ∀ b o, b ≠ x → h.get? b = some o → h'.get? b = some o
  obj : h'.get? x = some { cls := .ref C, dict := some dx, data := .fields #[.ref t1, .none, .none, .none, .bool false, .none] }
  dbig : h.objs.size ≤ dx
  dne : dx ≠ x
  ns : h'.Ns1 dx (fun y => if y = "index" then some v else none)
/-- a made Low -/
structure OwnMade (h h' : Heap) (e C d : Addr) (v : Value) : Prop where
  keep : ∀ b o, h.get? b = some o → h'.get? b = some o
  new : h.objs.size ≤ e
  obj : ∃ oe vs, h'.get? e = some oe ∧ oe.cls = .ref C ∧ oe.dict = some d ∧ oe.data = .fields vs ∧ vs[1]? = some .none
  dbig : h.objs.size ≤ d
  dne : d ≠ e
  ns : h'.Ns1 d (fun y => if y = "index" then some v else none)
section
variable {prog : Program} {w : World} {A : Around} {E : Value → Shared → Prop} {R : Result → Shared → Prop} {s : Shared} {K : Frag} {mg : Str → Option Value} {nm qn : Str} {C fI : Addr}
theorem low_init (T : LowTxt K mg nm qn C fI) {x t0 : Addr} {v : Value} (X : K.In s.heap) (hlim : s.heap.NoLimit) (hx : s.heap.get? x = some (excO C t0)) (hnx : K.lookup x = none) (hroom : A.depth < recursionLimit)
    (hq : ∀ h' tk dx, InitEnd s.heap h' x C dx t0 v → R (.ok (.ret .none)) { s with heap := h', toks := tk }) :
    codeAny (model prog w) A (.call (.ref fI) ⟨[.ref x, v], []⟩) R s := by
  obtain ⟨oc, od, doc, pm, an, cdv, ct, osl, p1, p2, q1, q2, q3, q4, ho, hcd⟩ := T.fn
  obtain ⟨nm1, q, N, bs, bm, sn, sub, ab, col, dd, k0, k1, k2, k3, k5, hC, hbm⟩ := T.cls
  have hcl : clsIn K C = some { name := nm1, bases := bs, mro := .ref C :: bm, ns := N, qualname := q, hasDict := true, slotNames := sn, subclasses := sub, abstract := ab, collection := col, hasDel := false } := by unfold clsIn; rw [hC] <;> rfl
  refine Att.call_fn (binds := [("self", .ref x), ("index", v)]) X hlim ho hcd hroom (BindsTo.of_eq (by first | rfl | with_unfolding_all rfl)) (by first | rfl | decide | with_unfolding_all rfl) (fun s₁ IC => ?_) rfl rfl rfl
  obtain ⟨h₁, tk₁, rfl⟩ := IC.toInCall.same
  have k : ∀ b o, s.heap.get? b = some o → h₁.get? b = some o := IC.toInCall.keep
  have hn := IC.toInCall.ns
  have hxL : s.heap.objs.size ≠ x := Nat.ne_of_gt (Heap.lt_size hx)
  have X₁ : K.In h₁ := X.keeps k
  have hx₁ := k _ _ hx
  -- self.by = by
  show wpAny _ _ (execs _ _) _ _ _
  refine wpAny_execs_cons (plainObj_wpAny_Assign_Attribute ?_)
  refine ldC (v := v) hn (by first | rfl | with_unfolding_all rfl | kernel_rfl) (ldC (v := .ref x) hn (by first | rfl | with_unfolding_all rfl | kernel_rfl) ?_)
  refine set_plain X₁ (ox := excO C t0) (od := none) ⟨hx₁, rfl, rfl, trivial⟩ T.sa ?_
  refine exc_osa X₁ hx₁ hcl (show refsVE (.ref C :: bm) = true from hbm) rfl T.noN (fun h₃ tk₃ dx k₃ dn dne hx₃ hn₃ => ?_)
  show wpAny _ _ (execs _ _) _ _ _
  have z : s.heap.objs.size < h₁.objs.size := hn.lt
  exact wpAny_execs_nil (hq h₃ tk₃ dx ⟨fun b o hb e => k₃ b o hb (k b o e), hx₃, Nat.le_of_lt (Nat.lt_of_lt_of_le z dn), dne, hn₃⟩)
theorem low_made (T : LowTxt K mg nm qn C fI) {v : Value} (X : K.In s.heap) (hlim : s.heap.NoLimit) (hroom : A.depth + 1 < recursionLimit)
    (hq : ∀ h' tk e d, OwnMade s.heap h' e C d v → R (.ok (.ret (.ref e))) { s with heap := h', toks := tk }) :
    codeAny (model prog w) A (.call (.ref C) ⟨[v], []⟩) R s := by
  obtain ⟨nm1, q, N, bs, bm, sn, sub, ab, col, dd, k0, k1, k2, k3, k5, hC, hbm⟩ := T.cls
  obtain ⟨hp, g, dr, tk, os⟩ := s
  have k : ∀ b o, hp.get? b = some o → ((hp.push (kdv_tup [v])).push (excO C hp.objs.size)).get? b = some o := fun b o e => Heap.get?_push_of_some _ (Heap.get?_push_of_some _ e)
  have hget : ((hp.push (kdv_tup [v])).push (excO C hp.objs.size)).get? (hp.objs.size + 1) = some (excO C hp.objs.size) := by heap_get
  have hnx : K.lookup (hp.objs.size + 1) = none := by
    cases e : K.lookup (hp.objs.size + 1) with
    | none => rfl
    | some o =>
      have z : hp.get? (hp.objs.size + 1) = some o := X _ _ e
      exact absurd (Nat.lt_of_succ_lt (Heap.lt_size z)) (Nat.lt_irrefl _)
  refine call_own F.excBase_ValueError (fun X => refsVE_contains X bm hbm) (X _ _ hC) (looks_findIn X T.iC) (fun self => bind_fn X self T.tC) (one_size v) ?_
  refine low_init (s := ⟨(hp.push (kdv_tup [v])).push (excO C hp.objs.size), g, dr, tk, os⟩) T (X.keeps k) (hlim.keeps k) hget hnx ?_ fun h' tk' dx ⟨k', hx, dn, dne, hns⟩ => ?_
  · show A.depth + 1 < recursionLimit
    exact hroom
  · have old : ∀ b o, hp.get? b = some o → h'.get? b = some o := fun b o e => k' b o (Nat.ne_of_lt (Nat.lt_succ_of_lt (Heap.lt_size e))) (k b o e)
    have z : hp.objs.size + 1 + 1 ≤ dx := by
      first
        | (simpa only [Heap.size_push] using dn)
        | exact dn
        | (have q := dn; rw [Heap.size_push, Heap.size_push] at q; exact q)
    exact ⟨rfl, hq h' tk' (hp.objs.size + 1) dx ⟨old, Nat.le_succ _, ⟨_, _, hx, rfl, rfl, rfl, rfl⟩, Nat.le_trans (Nat.le_trans (Nat.le_succ _) (Nat.le_succ _)) z, dne, hns⟩⟩
end
end ErrI
end PySem
namespace L2
open PySem PySem.Spec PyProof.Rows
theorem relO_low_I {v : V} {v' : Value} (r : RelV v v') (f : Str) : RelO (List.lookup f [(("index" : Str), v)]) (if f = "index" then some v' else none) := by
  by_cases hw : f = "index"
  · subst hw
    rw [if_pos rfl]
    have q : List.lookup ("index" : Str) [(("index" : Str), v)] = some v := by simp [List.lookup]
    rw [q]
    exact r
  · rw [if_neg hw]
    have qw : (f == ("index" : Str)) = false := by simpa using hw
    have q2 : List.lookup f [(("index" : Str), v)] = none := by simp [List.lookup, qw]
    rw [q2]
    trivial
section
variable {X : Cx} {nm qn : Str} {C fI : Addr}
/-- Low(e) -/
def tMkLow_I (C : Addr) (ta : TA) : St → Hp → XK → Prop := fun σ H Q => ta σ H fun vs H1 => ∃ v, vs = [v] ∧ ∀ d, H1 d = none → Q (.ref C) (some d) (upd H1 d (.xd [(("index" : Str), v)]))
theorem pmk_low_I {a : Expr} {ta : TA} {p pos : Pos} {k : Nat} (T : PySem.ErrI.LowTxt X.K X.mg nm qn C fI) (hr : Room k X.A) (ha : PA X [a] ta) (hdb : (nm == ("__debug__" : Str)) = false) (hg : Gl X nm := by rfl)
    (he : starEach (a :: []) X.env = (false, eval a X.env) :: starEach [] X.env := by rfl) (hpl : (backTo pos (starEach [] X.env)).any (·.1) = false := by rfl) :
    PMk X (.Call (.Name nm p) [a] [] pos) (tMkLow_I C ta) := by
  intro pins s σ H Q I h
  refine wpAny_Call_Name_kw (ld_glob I hg T.gC ?_ hdb)
  refine PySem.W.callWith_K (h₀ := X.base) I.ok.mod.kin T.kC (thn (ha.run pos pins s σ H _ I h) fun us s1 hh => ?_) he hpl
  obtain ⟨vs, H1, I1, r1, v, ev, q1⟩ := hh
  subst ev
  refine ⟨I1.kIn, ?_⟩
  cases r1 with
  | cons rv rn =>
    rename_i v' us'
    cases rn
    show wpAny _ _ (call (.ref C) [v']) _ _ _
    have hlim := I1.nolimit
    obtain ⟨hp, g, dr, tk, os⟩ := s1
    refine wpAny_call (PySem.ErrI.low_made T I1.kIn hlim (by have := hr.dp; omega) fun h' tk' e d M => ?_)
    show MkP X pins σ Q (.ref e) ⟨h', g, dr, tk', os⟩
    obtain ⟨oe, fv, hoe, hc, hd, hdat, h1⟩ := M.obj
    have hns := M.ns
    obtain ⟨G', g1, g2⟩ := restrict h' fun b => decide (b ≠ e)
    have gk : ∀ b, b ≠ e → G'.get? b = h'.get? b := fun b hb => g1 b (decide_eq_true hb)
    have ge : G'.get? e = none := g2 e (by simp)
    have old : ∀ b o, hp.get? b = some o → G'.get? b = some o := fun b o q => (gk b (Nat.ne_of_lt (Nat.lt_of_lt_of_le (Heap.lt_size q) M.new))).trans (M.keep b o q)
    have ob : ObjOk X.prog X.w (upd H1 d (.xd [(("index" : Str), v)])) G' d (.xd [(("index" : Str), v)]) :=
      ⟨_, hns.at (fun o q => (gk d M.dne).trans q), fun f => relO_low_I rv f⟩
    have J : Inv X pins σ (upd H1 d (.xd [(("index" : Str), v)])) ⟨G', g, dr, tk', os⟩ := I1.laid (t' := tk') old M.dbig ob
    refine ⟨e, oe, fv, ⟨G', g, dr, tk', os⟩, _, .ref C, some d, rfl, J, fun b o q => ?_, ge, hoe, ⟨hc, hd⟩, hdat, h1, ?_, rfl, I1.bare, raises_own T.exC T.tyC, q1 d (I1.hok.fresh M.dbig)⟩
    · by_cases hb : b = e
      · have q' : G'.get? b = some o := q
        rw [hb, ge] at q'; cases q'
      · exact (gk b hb).symm.trans q
    · rw [upd_ne (Ne.symm M.dne)]
      exact I1.hok.fresh M.new
/-- raise Low(e) -/
def tRaiseLow_I (C : Addr) (W : WX) (ta : TA) : TS := fun _ σ H => tMkLow_I C ta σ H fun cls d H' => W cls d σ H'
theorem ps_raiseLow_I {a : Expr} {ta : TA} {W : WX} {p pos pos2 : Pos} {k : Nat} (hc : X.calm = true) (T : PySem.ErrI.LowTxt X.K X.mg nm qn C fI) (hr : Room k X.A) (tk : Takes X W) (ha : PA X [a] ta) (hdb : (nm == ("__debug__" : Str)) = false) (hg : Gl X nm := by rfl)
    (he : starEach (a :: []) X.env = (false, eval a X.env) :: starEach [] X.env := by rfl) (hpl : (backTo pos (starEach [] X.env)).any (·.1) = false := by rfl) :
    PS X (.Raise (some (.Call (.Name nm p) [a] [] pos)) none pos2) (tRaiseLow_I C W ta) := ps_raise hc tk (pmk_low_I T hr ha hdb hg he hpl)
/-- low.by, low the exception that the suite holds (at a; its class cls, its dict d) -/
def tByLow_I (C : Addr) (a : Addr) (cls : Value) (d : Option Addr) (te : TE) : TE := fun σ H Q => te σ H fun x H1 => x = .ref a ∧ cls = .ref C ∧ ∃ (dd : Addr) (v : V), d = some dd ∧ H1 dd = some (.xd [(("index" : Str), v)]) ∧ Q v H1
theorem pe_byLow_I {a : Addr} {oe : Obj} {cls : Value} {d : Option Addr} {pn : List (Addr × Obj)} {e : Expr} {te : TE} {pos : Pos} (T : PySem.ErrI.LowTxt X.K X.mg nm qn C fI) (hz : Zc cls d oe) (hf : ∃ vs, oe.data = .fields vs) (he : PE (X.suite a ((a, oe) :: pn)) e te)
    (hb : attributeBase e "index" X.env (eval e X.env) = eval e X.env := by rfl) :
    PE (X.suite a ((a, oe) :: pn)) (.Attribute e "index" pos) (tByLow_I C a cls d te) := by
  refine ⟨fun pins s σ H Q I h => ?_⟩
  refine attr_of hb (thn (he.run pins s σ H _ I h) fun u s1 hh => ?_)
  obtain ⟨x, H1, I1, rx, ex, ec, dd, v, ed, ea, q⟩ := hh
  subst ex
  obtain rfl : u = Value.ref a := rx
  subst ec
  subst ed
  obtain ⟨ha, _⟩ := I1.pin (a, oe) (List.mem_append_left _ List.mem_cons_self)
  obtain ⟨vs, hd⟩ := hf
  have hx : ObjOk X.prog X.w H1 s1.heap dd (.xd [(("index" : Str), v)]) := I1.hok dd _ ea
  obtain ⟨mA, hns, hr⟩ := hx
  obtain ⟨od, ho, hl⟩ := lookIn_ns hns
  have l : List.lookup ("index" : Str) [(("index" : Str), v)] = some v := by simp [List.lookup]
  obtain ⟨u, hu, ru⟩ := RelO.some_of (v := v) (o := mA "index") (by rw [← l]; exact hr "index")
  have J : PySem.W.InstAt s1.heap a oe C (some od) := ⟨ha, hz.1, by unfold PySem.W.notCls; rw [hd] <;> rfl, by rw [hz.2]; exact ho⟩
  exact HandSPX.exc_get I1.kIn J T.ga T.gg T.exC (PySem.W.findObj_own T.hdC T.noN rfl (by rw [hl, hu])) (handed_of ru) ⟨v, H1, I1.tok _, ru, q⟩
end
end L2

namespace PySem
namespace ErrW
open PySem.W PySem.Calls PyProof.Rows PySem.HandSPX
/-! ### the text of __init__ -/
def iA (p1 p2 : Pos) : Arguments := { posonlyargs := [], args := [{ arg := "self", annotation := none, pos := p1 }, { arg := "word", annotation := none, pos := p2 }], vararg := none, kwonlyargs := [], kw_defaults := [], kwarg := none, defaults := [] }
def iB (q1 q2 q3 q4 : Pos) : List Stmt := [.Assign [.Attribute (.Name "self" q1) "word" q2] (.Name "word" q3) q4]
def iS : Scope := { kind := .function, names := [(PySem.Str.ofString "self", .local), (PySem.Str.ofString "word", .local)], isGenerator := false, isCoroutine := false, more := [] }
/-- what the written part says of Low, at C, and of its __init__, at fI -/
structure LowTxt (K : Frag) (mg : Str → Option Value) (nm qn : Str) (C fI : Addr) : Prop where
  gC : mg nm = some (.ref C)
  cls : ∃ nm1 q N bs bm sn sub ab col dd k0 k1 k2 k3 k5, K.lookup C = some (excClassObj nm1 q C N bs bm true sn sub ab col dd k0 k1 k2 k3 k5 "ValueError.__new__") ∧ refsVE bm = true
  sa : findIn K (.ref C) "__setattr__" = some (some (.builtin "object.__setattr__"))
  ga : findIn K (.ref C) "__getattribute__" = some (some (.builtin "BaseException.__getattribute__"))
  gg : findIn K (.ref C) "__getattr__" = some none
  noN : findIn K (.ref C) "word" = some none
  iC : findIn K (.ref C) "__init__" = some (some (.ref fI))
  tC : typeIn K (.ref fI) = some (.type "function")
  kC : keepIn K (.ref C) = true
  exC : subIn K (.ref C) (.type "BaseException") = some true
  tyC : typeIn K (.ref C) = some (.type "type")
  hdC : hasDictIn K C = true
  fn : ∃ (oc : Value) (od : Option Addr) (doc pm : Value) (an : Option Addr) (cdv ct : Value) (osl : Array (Option Value)) (p1 p2 q1 q2 q3 q4 : Pos),
    K.lookup fI = some ⟨oc, od, .func (fnOf "__init__" qn (iA p1 p2) (iB q1 q2 q3 q4) iS .none .none doc pm an cdv ct), osl⟩ ∧ codeIn K cdv qn = true
theorem one_size (v : Value) : [v].length ≤ sizeLine := by
  rw [sizeLine_eq]
  exact (by decide : 1 ≤ 16777216)
theorem kept_but {K : Frag} {h h' : Heap} {x : Addr} (X : K.In h) (hx : K.lookup x = none) (k : ∀ b o, b ≠ x → h.get? b = some o → h'.get? b = some o) : K.In h' := fun a o e =>
  k a o (fun z => by rw [z, hx] at e; cases e) (X a o e)
theorem ldC {M : Model} {s : Shared} {name : Str} {scope : Scope} {L a : Addr} {cd : Value} {m : Str → Option Value} {x : Str} {pos : Pos} {v : Value} {Q : Value → Shared → Prop} {A : Around} {E : Value → Shared → Prop} (hn : s.heap.Ns L m) (hv : m x = some v) (h : Q v s)
    (hk : scope.kind = .function := by rfl) (hl : (envOfC name scope L a cd).kindOf x = some .local := by rfl) (hd : (x == ("__debug__" : Str)) = false := by decide) :
    wpAny M A (eval (.Name x pos) (envOfC name scope L a cd)) Q E s := wpAny_Name (wpAny_loadName_local hk hl hn hv h) hd
/-- what __init__ leaves of a fresh exception at x -/
structure InitEnd (h h' : Heap) (x C dx t1 : Addr) (v : Value) : Prop where
  keep : ∀ b o, b ≠ x → h.get? b = some o → h'.get? b = some o
  obj : h'.get? x = some { cls := .ref C, dict := some dx, data := .fields #[.ref t1, .none, .none, .none, .bool false, .none] }
  dbig : h.objs.size ≤ dx
  dne : dx ≠ x
  ns : h'.Ns1 dx (fun y => if y = "word" then some v else none)
/-- a made Low -/
structure OwnMade (h h' : Heap) (e C d : Addr) (v : Value) : Prop where
  keep : ∀ b o, h.get? b = some o → h'.get? b = some o
  new : h.objs.size ≤ e
  obj : ∃ oe vs, h'.get? e = some oe ∧ oe.cls = .ref C ∧ oe.dict = some d ∧ oe.data = .fields vs ∧ vs[1]? = some .none
  dbig : h.objs.size ≤ d
  dne : d ≠ e
  ns : h'.Ns1 d (fun y => if y = "word" then some v else none)
section
variable {prog : Program} {w : World} {A : Around} {E : Value → Shared → Prop} {R : Result → Shared → Prop} {s : Shared} {K : Frag} {mg : Str → Option Value} {nm qn : Str} {C fI : Addr}
theorem low_init (T : LowTxt K mg nm qn C fI) {x t0 : Addr} {v : Value} (X : K.In s.heap) (hlim : s.heap.NoLimit) (hx : s.heap.get? x = some (excO C t0)) (hnx : K.lookup x = none) (hroom : A.depth < recursionLimit)
    (hq : ∀ h' tk dx, InitEnd s.heap h' x C dx t0 v → R (.ok (.ret .none)) { s with heap := h', toks := tk }) :
    codeAny (model prog w) A (.call (.ref fI) ⟨[.ref x, v], []⟩) R s := by
  obtain ⟨oc, od, doc, pm, an, cdv, ct, osl, p1, p2, q1, q2, q3, q4, ho, hcd⟩ := T.fn
  obtain ⟨nm1, q, N, bs, bm, sn, sub, ab, col, dd, k0, k1, k2, k3, k5, hC, hbm⟩ := T.cls
  have hcl : clsIn K C = some { name := nm1, bases := bs, mro := .ref C :: bm, ns := N, qualname := q, hasDict := true, slotNames := sn, subclasses := sub, abstract := ab, collection := col, hasDel := false } := by unfold clsIn; rw [hC] <;> rfl
  refine Att.call_fn (binds := [("self", .ref x), ("word", v)]) X hlim ho hcd hroom (BindsTo.of_eq (by first | rfl | with_unfolding_all rfl)) (by first | rfl | decide | with_unfolding_all rfl) (fun s₁ IC => ?_) rfl rfl rfl
  obtain ⟨h₁, tk₁, rfl⟩ := IC.toInCall.same
  have k : ∀ b o, s.heap.get? b = some o → h₁.get? b = some o := IC.toInCall.keep
  have hn := IC.toInCall.ns
  have hxL : s.heap.objs.size ≠ x := Nat.ne_of_gt (Heap.lt_size hx)
  have X₁ : K.In h₁ := X.keeps k
  have hx₁ := k _ _ hx
  -- self.by = by
  show wpAny _ _ (execs _ _) _ _ _
  refine wpAny_execs_cons (plainObj_wpAny_Assign_Attribute ?_)
  refine ldC (v := v) hn (by first | rfl | with_unfolding_all rfl | kernel_rfl) (ldC (v := .ref x) hn (by first | rfl | with_unfolding_all rfl | kernel_rfl) ?_)
  refine set_plain X₁ (ox := excO C t0) (od := none) ⟨hx₁, rfl, rfl, trivial⟩ T.sa ?_
  refine exc_osa X₁ hx₁ hcl (show refsVE (.ref C :: bm) = true from hbm) rfl T.noN (fun h₃ tk₃ dx k₃ dn dne hx₃ hn₃ => ?_)
  show wpAny _ _ (execs _ _) _ _ _
  have z : s.heap.objs.size < h₁.objs.size := hn.lt
  exact wpAny_execs_nil (hq h₃ tk₃ dx ⟨fun b o hb e => k₃ b o hb (k b o e), hx₃, Nat.le_of_lt (Nat.lt_of_lt_of_le z dn), dne, hn₃⟩)
theorem low_made (T : LowTxt K mg nm qn C fI) {v : Value} (X : K.In s.heap) (hlim : s.heap.NoLimit) (hroom : A.depth + 1 < recursionLimit)
    (hq : ∀ h' tk e d, OwnMade s.heap h' e C d v → R (.ok (.ret (.ref e))) { s with heap := h', toks := tk }) :
    codeAny (model prog w) A (.call (.ref C) ⟨[v], []⟩) R s := by
  obtain ⟨nm1, q, N, bs, bm, sn, sub, ab, col, dd, k0, k1, k2, k3, k5, hC, hbm⟩ := T.cls
  obtain ⟨hp, g, dr, tk, os⟩ := s
  have k : ∀ b o, hp.get? b = some o → ((hp.push (kdv_tup [v])).push (excO C hp.objs.size)).get? b = some o := fun b o e => Heap.get?_push_of_some _ (Heap.get?_push_of_some _ e)
  have hget : ((hp.push (kdv_tup [v])).push (excO C hp.objs.size)).get? (hp.objs.size + 1) = some (excO C hp.objs.size) := by heap_get
  have hnx : K.lookup (hp.objs.size + 1) = none := by
    cases e : K.lookup (hp.objs.size + 1) with
    | none => rfl
    | some o =>
      have z : hp.get? (hp.objs.size + 1) = some o := X _ _ e
      exact absurd (Nat.lt_of_succ_lt (Heap.lt_size z)) (Nat.lt_irrefl _)
  refine call_own F.excBase_ValueError (fun X => refsVE_contains X bm hbm) (X _ _ hC) (looks_findIn X T.iC) (fun self => bind_fn X self T.tC) (one_size v) ?_
  refine low_init (s := ⟨(hp.push (kdv_tup [v])).push (excO C hp.objs.size), g, dr, tk, os⟩) T (X.keeps k) (hlim.keeps k) hget hnx ?_ fun h' tk' dx ⟨k', hx, dn, dne, hns⟩ => ?_
  · show A.depth + 1 < recursionLimit
    exact hroom
  · have old : ∀ b o, hp.get? b = some o → h'.get? b = some o := fun b o e => k' b o (Nat.ne_of_lt (Nat.lt_succ_of_lt (Heap.lt_size e))) (k b o e)
    have z : hp.objs.size + 1 + 1 ≤ dx := by
      first
        | (simpa only [Heap.size_push] using dn)
        | exact dn
        | (have q := dn; rw [Heap.size_push, Heap.size_push] at q; exact q)
    exact ⟨rfl, hq h' tk' (hp.objs.size + 1) dx ⟨old, Nat.le_succ _, ⟨_, _, hx, rfl, rfl, rfl, rfl⟩, Nat.le_trans (Nat.le_trans (Nat.le_succ _) (Nat.le_succ _)) z, dne, hns⟩⟩
end
end ErrW
end PySem
namespace L2
open PySem PySem.Spec PyProof.Rows
theorem relO_low_W {v : V} {v' : Value} (r : RelV v v') (f : Str) : RelO (List.lookup f [(("word" : Str), v)]) (if f = "word" then some v' else none) := by
  by_cases hw : f = "word"
  · subst hw
    rw [if_pos rfl]
    have q : List.lookup ("word" : Str) [(("word" : Str), v)] = some v := by simp [List.lookup]
    rw [q]
    exact r
  · rw [if_neg hw]
    have qw : (f == ("word" : Str)) = false := by simpa using hw
    have q2 : List.lookup f [(("word" : Str), v)] = none := by simp [List.lookup, qw]
    rw [q2]
    trivial
section
variable {X : Cx} {nm qn : Str} {C fI : Addr}
/-- Low(e) -/
def tMkLow_W (C : Addr) (ta : TA) : St → Hp → XK → Prop := fun σ H Q => ta σ H fun vs H1 => ∃ v, vs = [v] ∧ ∀ d, H1 d = none → Q (.ref C) (some d) (upd H1 d (.xd [(("word" : Str), v)]))
theorem pmk_low_W {a : Expr} {ta : TA} {p pos : Pos} {k : Nat} (T : PySem.ErrW.LowTxt X.K X.mg nm qn C fI) (hr : Room k X.A) (ha : PA X [a] ta) (hdb : (nm == ("__debug__" : Str)) = false) (hg : Gl X nm := by rfl)
    (he : starEach (a :: []) X.env = (false, eval a X.env) :: starEach [] X.env := by rfl) (hpl : (backTo pos (starEach [] X.env)).any (·.1) = false := by rfl) :
    PMk X (.Call (.Name nm p) [a] [] pos) (tMkLow_W C ta) := by
  intro pins s σ H Q I h
  refine wpAny_Call_Name_kw (ld_glob I hg T.gC ?_ hdb)
  refine PySem.W.callWith_K (h₀ := X.base) I.ok.mod.kin T.kC (thn (ha.run pos pins s σ H _ I h) fun us s1 hh => ?_) he hpl
  obtain ⟨vs, H1, I1, r1, v, ev, q1⟩ := hh
  subst ev
  refine ⟨I1.kIn, ?_⟩
  cases r1 with
  | cons rv rn =>
    rename_i v' us'
    cases rn
    show wpAny _ _ (call (.ref C) [v']) _ _ _
    have hlim := I1.nolimit
    obtain ⟨hp, g, dr, tk, os⟩ := s1
    refine wpAny_call (PySem.ErrW.low_made T I1.kIn hlim (by have := hr.dp; omega) fun h' tk' e d M => ?_)
    show MkP X pins σ Q (.ref e) ⟨h', g, dr, tk', os⟩
    obtain ⟨oe, fv, hoe, hc, hd, hdat, h1⟩ := M.obj
    have hns := M.ns
    obtain ⟨G', g1, g2⟩ := restrict h' fun b => decide (b ≠ e)
    have gk : ∀ b, b ≠ e → G'.get? b = h'.get? b := fun b hb => g1 b (decide_eq_true hb)
    have ge : G'.get? e = none := g2 e (by simp)
    have old : ∀ b o, hp.get? b = some o → G'.get? b = some o := fun b o q => (gk b (Nat.ne_of_lt (Nat.lt_of_lt_of_le (Heap.lt_size q) M.new))).trans (M.keep b o q)
    have ob : ObjOk X.prog X.w (upd H1 d (.xd [(("word" : Str), v)])) G' d (.xd [(("word" : Str), v)]) :=
      ⟨_, hns.at (fun o q => (gk d M.dne).trans q), fun f => relO_low_W rv f⟩
    have J : Inv X pins σ (upd H1 d (.xd [(("word" : Str), v)])) ⟨G', g, dr, tk', os⟩ := I1.laid (t' := tk') old M.dbig ob
    refine ⟨e, oe, fv, ⟨G', g, dr, tk', os⟩, _, .ref C, some d, rfl, J, fun b o q => ?_, ge, hoe, ⟨hc, hd⟩, hdat, h1, ?_, rfl, I1.bare, raises_own T.exC T.tyC, q1 d (I1.hok.fresh M.dbig)⟩
    · by_cases hb : b = e
      · have q' : G'.get? b = some o := q
        rw [hb, ge] at q'; cases q'
      · exact (gk b hb).symm.trans q
    · rw [upd_ne (Ne.symm M.dne)]
      exact I1.hok.fresh M.new
/-- raise Low(e) -/
def tRaiseLow_W (C : Addr) (W : WX) (ta : TA) : TS := fun _ σ H => tMkLow_W C ta σ H fun cls d H' => W cls d σ H'
theorem ps_raiseLow_W {a : Expr} {ta : TA} {W : WX} {p pos pos2 : Pos} {k : Nat} (hc : X.calm = true) (T : PySem.ErrW.LowTxt X.K X.mg nm qn C fI) (hr : Room k X.A) (tk : Takes X W) (ha : PA X [a] ta) (hdb : (nm == ("__debug__" : Str)) = false) (hg : Gl X nm := by rfl)
    (he : starEach (a :: []) X.env = (false, eval a X.env) :: starEach [] X.env := by rfl) (hpl : (backTo pos (starEach [] X.env)).any (·.1) = false := by rfl) :
    PS X (.Raise (some (.Call (.Name nm p) [a] [] pos)) none pos2) (tRaiseLow_W C W ta) := ps_raise hc tk (pmk_low_W T hr ha hdb hg he hpl)
/-- low.by, low the exception that the suite holds (at a; its class cls, its dict d) -/
def tByLow_W (C : Addr) (a : Addr) (cls : Value) (d : Option Addr) (te : TE) : TE := fun σ H Q => te σ H fun x H1 => x = .ref a ∧ cls = .ref C ∧ ∃ (dd : Addr) (v : V), d = some dd ∧ H1 dd = some (.xd [(("word" : Str), v)]) ∧ Q v H1
theorem pe_byLow_W {a : Addr} {oe : Obj} {cls : Value} {d : Option Addr} {pn : List (Addr × Obj)} {e : Expr} {te : TE} {pos : Pos} (T : PySem.ErrW.LowTxt X.K X.mg nm qn C fI) (hz : Zc cls d oe) (hf : ∃ vs, oe.data = .fields vs) (he : PE (X.suite a ((a, oe) :: pn)) e te)
    (hb : attributeBase e "word" X.env (eval e X.env) = eval e X.env := by rfl) :
    PE (X.suite a ((a, oe) :: pn)) (.Attribute e "word" pos) (tByLow_W C a cls d te) := by
  refine ⟨fun pins s σ H Q I h => ?_⟩
  refine attr_of hb (thn (he.run pins s σ H _ I h) fun u s1 hh => ?_)
  obtain ⟨x, H1, I1, rx, ex, ec, dd, v, ed, ea, q⟩ := hh
  subst ex
  obtain rfl : u = Value.ref a := rx
  subst ec
  subst ed
  obtain ⟨ha, _⟩ := I1.pin (a, oe) (List.mem_append_left _ List.mem_cons_self)
  obtain ⟨vs, hd⟩ := hf
  have hx : ObjOk X.prog X.w H1 s1.heap dd (.xd [(("word" : Str), v)]) := I1.hok dd _ ea
  obtain ⟨mA, hns, hr⟩ := hx
  obtain ⟨od, ho, hl⟩ := lookIn_ns hns
  have l : List.lookup ("word" : Str) [(("word" : Str), v)] = some v := by simp [List.lookup]
  obtain ⟨u, hu, ru⟩ := RelO.some_of (v := v) (o := mA "word") (by rw [← l]; exact hr "word")
  have J : PySem.W.InstAt s1.heap a oe C (some od) := ⟨ha, hz.1, by unfold PySem.W.notCls; rw [hd] <;> rfl, by rw [hz.2]; exact ho⟩
  exact HandSPX.exc_get I1.kIn J T.ga T.gg T.exC (PySem.W.findObj_own T.hdC T.noN rfl (by rw [hl, hu])) (handed_of ru) ⟨v, H1, I1.tok _, ru, q⟩
end
end L2


/-! PDl: raise and try, over data. -/
namespace L2
open PySem PySem.Spec PyProof.Rows
section
variable {X : Cx} {C : Addr} {bmB : List Value} {B newId initId : String}
/-- X() -/
theorem pmk_own0 {x : Str} {p pos : Pos} (F : ExcBaseFacts B newId initId bmB) (q : PySem.W.excIn X.K C bmB newId = true) (gC : X.mg x = some (.ref C))
    (kC : PySem.W.keepIn X.K (.ref C) = true) (r : Raises X (.ref C)) (hdb : (x == ("__debug__" : Str)) = false) (hg : Gl X x := by rfl) :
    PMk X (.Call (.Name x p) [] [] pos) (fun σ H Q => Q (.ref C) none H) := by
  intro pins s σ H Q I h
  refine wpAny_Call_Name_kw (ld_glob I hg gC ?_ hdb)
  refine PySem.W.callWith_K0 I.kIn kC ?_
  show wpAny _ _ (call (.ref C) []) _ _ _
  obtain ⟨bm, N, nm, qn, bs, hdct, sn, sub, ab, col, dd, k0, k1, k2, k3, k5, mN, hC, hN, hni, T⟩ := exc_obj I.kIn q
  refine wpAny_call_exc_subT F T hC hN hni (fun h' e hm => ?_) (by show 0 ≤ sizeLine; exact Nat.zero_le _)
  exact mk_of I hm r h (I.hok.gone hm.new)
end
end L2
namespace PD
open PySem PySem.Spec PyProof.Rows L2
/-- an own error class without own __init__ -/
structure Er0 (K : PySem.W.Frag) (mg : Str → Option Value) (nm : Str) (c : Addr) : Prop where
  g : mg nm = some (.ref c)
  k : PySem.W.keepIn K (.ref c) = true
  q : PySem.W.excIn K c [.type "ValueError", .type "Exception", .type "BaseException", .type "object"] "ValueError.__new__" = true
  s : PySem.W.subIn K (.ref c) (.type "BaseException") = some true
  t : PySem.W.typeIn K (.ref c) = some (.type "type")
def sRaise0 (nm : Str) : DS := fun g M N => N.ex ⟨nm, none⟩ g M
def sRaise1 (nm fl : Str) (d : DE) : DS := fun g M N => d g M (fun e M' => N.ex e g M') fun y M' => N.ex ⟨nm, some (fl, y)⟩ g M'
section
variable {X : Cx} {C : Cn} {W : WX} {a : Expr} {da : DE} {nm qn : Str} {p pos pos2 : Pos} {k : Nat} {fI : Addr}
theorem s_raise0 (hc : X.calm = true) (tk : Takes X W) (E : Er0 X.K X.mg nm (C.cl nm)) (hdb : (nm == ("__debug__" : Str)) = false := by decide) (hg : Gl X nm := by rfl) : PS X (.Raise (some (.Call (.Name nm p) [] [] pos)) none pos2) (upS C W (sRaise0 nm)) :=
  ps_imp (ps_raise hc tk (pmk_own0 F.excBase_ValueError E.q E.g E.k (raises_own E.s E.t) hdb hg)) fun D σ H h => by
    obtain ⟨th, F, g, M, N, a, kk, h⟩ := h
    exact kk.ex _ g M σ th F H _ none h a Le.rfl ⟨rfl, rfl⟩
theorem raise1_up {fl : Str} (De : Ends) (σ : L2.St) (H : Hp) (h : upS C W (sRaise1 nm fl da) De σ H) : upA C W (dCons da dNil) σ H fun vs H1 => ∃ v, vs = [v] ∧ ∀ d, H1 d = none → W (.ref (C.cl nm)) (some d) σ (upd H1 d (.xd [(fl, v)])) := by
  obtain ⟨th, F, g, M, N, a, kk, h⟩ := h
  refine ⟨th, F, g, M, _, fun ys M' => ∃ y, ys = [y] ∧ N.ex ⟨nm, some (fl, y)⟩ g M', kk.pk (rel := rL C) a fun ys M' vs th' F' H' q hA l r => ?_, ?_⟩
  · obtain ⟨y, e, q⟩ := q
    subst e
    obtain ⟨v, e, rv⟩ := RepL.one' r
    subst e
    refine ⟨v, rfl, fun d hd => ?_⟩
    exact kk.ex _ g M' σ th' F' _ _ (some d) q ⟨hA.hs.grow (Ex.nw hd), hA.sl⟩ l ⟨rfl, d, v, rfl, upd_same, rv⟩
  · refine (?_ : da g M _ _)
    show da g M (fun e M' => N.ex e g M') fun x M1 => ∃ y, [x] = [y] ∧ N.ex ⟨nm, some (fl, y)⟩ g M1
    have e : (fun (x : D) (M1 : MS) => ∃ y, [x] = [y] ∧ N.ex ⟨nm, some (fl, y)⟩ g M1) = fun x M1 => N.ex ⟨nm, some (fl, x)⟩ g M1 := by
      funext x M1
      exact propext ⟨fun ⟨y, e, q⟩ => by injection e with e _; subst e; exact q, fun q => ⟨x, rfl, q⟩⟩
    rw [e]
    exact h
theorem s_raiseI (hc : X.calm = true) (tk : Takes X W) (hr : Room k X.A) (T : PySem.ErrI.LowTxt X.K X.mg nm qn (C.cl nm) fI) (ha : PE X a (upE C W da)) (hdb : (nm == ("__debug__" : Str)) = false := by decide) (hg : Gl X nm := by rfl)
    (he : starEach (a :: []) X.env = (false, eval a X.env) :: starEach [] X.env := by rfl) (hpl : (backTo pos (starEach [] X.env)).any (·.1) = false := by rfl) :
    PS X (.Raise (some (.Call (.Name nm p) [a] [] pos)) none pos2) (upS C W (sRaise1 nm "index" da)) :=
  ps_imp (ps_raiseLow_I hc T hr tk (da_cons ha da_nil he) hdb hg he hpl) fun De σ H h => raise1_up De σ H h
theorem s_raiseW (hc : X.calm = true) (tk : Takes X W) (hr : Room k X.A) (T : PySem.ErrW.LowTxt X.K X.mg nm qn (C.cl nm) fI) (ha : PE X a (upE C W da)) (hdb : (nm == ("__debug__" : Str)) = false := by decide) (hg : Gl X nm := by rfl)
    (he : starEach (a :: []) X.env = (false, eval a X.env) :: starEach [] X.env := by rfl) (hpl : (backTo pos (starEach [] X.env)).any (·.1) = false := by rfl) :
    PS X (.Raise (some (.Call (.Name nm p) [a] [] pos)) none pos2) (upS C W (sRaise1 nm "word" da)) :=
  ps_imp (ps_raiseLow_W hc T hr tk (da_cons ha da_nil he) hdb hg he hpl) fun De σ H h => raise1_up De σ H h
end
end PD

/-! PDm: how a text's defs are told of; the end. -/
namespace PD
open PySem PySem.Spec PyProof.Rows L2
section
variable {P : Program} {w : World} {K : PySem.W.Frag} {mg : Str → Option Value} {base : Heap} {C : Cn}
/-- THE RULE for a def: its body's derivation, and the promise without a heap -/
theorem fn_okF {x qual : Str} {st : Stmt} {f : Addr} {fd : FuncData} {N ps : List Str} {k : Nat} {s : DSp} {d : DS} {dvs : List V} (F : FunD K x qual (defArgs st) (defBody st) (defScope st) dvs [] f fd) (S : FnScope N ps (defScope st)) (len : ∀ ys M X P, s ys M X P → ys.length = ps.length)
    (hbody : ∀ (cdv : Value) (A : Around) (outer : List Env) (sh : Shared) (H : Hp) (E : XK), Room k (A.deeper (envOfC qual (defScope st) sh.heap.objs.size f cdv)) →
      PSs (cxOf (L2.CX P w) P w K mg base N qual (defScope st) f cdv A outer sh H E) (defBody st) (upS C (fun cls dd _ H' => E cls dd H') d))
    (pure : ∀ ys M X P, s ys M X P → d (startD N.length ys) M (bodyN M.length X P)) : FnOk P w K mg base (L2.CX P w) (k + 1) f fd ps (upSp C s) := by
  refine F.ok (CX := L2.CX P w) S (fun vs H Q E h => ?_) (fun cdv A outer sh H vs Q E hr h => ?_)
  · obtain ⟨th, F', M, ys, X, P', hs, r, h, _⟩ := h
    rw [RepL.len r]
    exact len _ _ _ _ h
  · obtain ⟨th, F', M, ys, X, P', hs, r, h, ok, ex⟩ := h
    refine ⟨_, hbody cdv A outer sh H E hr, th, F', startD N.length ys, M, bodyN M.length X P', ⟨hs, start_sl r⟩, ?_, pure ys M X P' h⟩
    · have rt : ∀ (y : D) (M' : MS) (v : V) (th' : List Addr) (F1 H' : Hp), Ret P' M.length y M' → Hs C th' F1 H' M' → Le th F' th' F1 → Rep C th' F1 v y → Q v H' := by
        intro y M' v th' F1 H' q h' l r'
        cases q with
        | same q => exact ok y M' v th' F1 H' q h' l r'
        | @drop M0 L e hn hc cy q =>
          subst e
          exact ok y M0 v _ F1 H' q (h'.pop hc) (le_take l (by rw [hs.len]; exact hn)) (Rep.cut cy r')
      refine ⟨fun g M' σ th' F1 H' q a l => rt .non M' .non th' F1 H' q a.hs l .non, rt, fun _ _ _ _ _ _ q => q.elim, fun _ _ _ _ _ _ q => q.elim, fun e g M' σ th' F1 H' cls dd q a l x => ?_⟩
      cases q with
      | same q => exact ex e M' th' F1 H' cls dd q a.hs l x
      | @drop M0 L e0 hn hc cy q =>
        subst e0
        refine ex e M0 _ F1 H' cls dd q (a.hs.pop hc) (le_take l (by rw [hs.len]; exact hn)) ?_
        obtain ⟨x1, x2⟩ := x
        refine ⟨x1, ?_⟩
        cases hf : e.fld with
        | none => rw [hf] at x2; exact x2
        | some fy =>
          obtain ⟨f, y⟩ := fy
          rw [hf] at x2
          obtain ⟨ad, v, h1, h2, h3⟩ := x2
          exact ⟨ad, v, h1, h2, Rep.cut (cy f y hf) h3⟩

theorem fn_false {CX : CXT} {k : Nat} {f : Addr} {fd : FuncData} {ps : List Str} : FnOk P w K mg base CX k f fd ps (upSp C fun _ _ _ _ => False) :=
  ⟨fun vs H Q E ⟨_, _, _, _, _, _, _, _, h, _⟩ => h.elim, fun A outer s H args us vs Q E _ _ _ _ ⟨_, _, _, _, _, _, _, _, h, _⟩ => h.elim⟩
/-- a def of the text, told of: its name in the module, its arguments, its defaults -/
structure Dn (K : PySem.W.Frag) (mg : Str → Option Value) (nm : Str) (st : Stmt) (ps : List Str) (dvs : List V) (ds : List Value) (f : Addr) (fd : FuncData) : Prop where
  fn : FunD K nm nm (defArgs st) (defBody st) (defScope st) dvs [] f fd
  g : mg nm = some (.ref f)
  b : Binds K fd ps []
  bd : Binds K fd ps ds
  vd : Vals dvs ds
theorem fnd_mk {nm qual : Str} {st : Stmt} {f : Addr} {od an : Option Addr} {sl : Array (Option Value)} {oc kV dc pm cd ct : Value} (l : K.lookup f = some ⟨oc, od, .func (PySem.W.fnOf nm qual (defArgs st) (defBody st) (defScope st) .none kV dc pm an cd ct), sl⟩) (c : PySem.W.codeIn K cd qual = true) (k : PySem.W.keepIn K (.ref f) = true) :
    FunD K nm qual (defArgs st) (defBody st) (defScope st) [] [] f (PySem.W.fnOf nm qual (defArgs st) (defBody st) (defScope st) .none kV dc pm an cd ct) :=
  ⟨⟨oc, od, .none, kV, dc, pm, an, cd, ct, sl, rfl, l, c, .inl ⟨rfl, rfl⟩, .inl rfl⟩, k⟩
/-- one default, an int -/
theorem fnd_mk1 {nm qual : Str} {st : Stmt} {f T : Addr} {od an : Option Addr} {sl : Array (Option Value)} {oc kV dc pm cd ct : Value} {o : Obj} {i : Int} {t : Tok} {n : Nat} (l : K.lookup f = some ⟨oc, od, .func (PySem.W.fnOf nm qual (defArgs st) (defBody st) (defScope st) (.ref T) kV dc pm an cd ct), sl⟩) (c : PySem.W.codeIn K cd qual = true) (k : PySem.W.keepIn K (.ref f) = true)
    (lT : K.lookup T = some o) (oT : o.data = .seq #[.int i t] n) : FunD K nm qual (defArgs st) (defBody st) (defScope st) [.int i] [] f (PySem.W.fnOf nm qual (defArgs st) (defBody st) (defScope st) (.ref T) kV dc pm an cd ct) :=
  ⟨⟨oc, od, .ref T, kV, dc, pm, an, cd, ct, sl, rfl, l, c, .inr ⟨by simp, T, o, [.int i t], n, rfl, lT, oT, .cons ⟨t, rfl⟩ .nil⟩, .inl rfl⟩, k⟩
/-- what is told of the class Game -/
structure Gm (P : Program) (w : World) (K : PySem.W.Frag) (mg : Str → Option Value) (base : Heap) (C : Addr) (fI : Addr) (dI : FuncData) where
  cl : Cls K C
  gC : mg "Game" = some (.ref C)
  mkg : Mk K C fI
  bi : Binds K dI ["self", "children", "parts", "steps"] []
  (pc pp ps gc gp gs : Addr)
  (dc dp ds : FuncData)
  p_children : PropOf K C "children" pc gc
  p_parts : PropOf K C "parts" pp gp
  p_steps : PropOf K C "steps" ps gs
  k_children : FnOk P w K mg base (L2.CX P w) 1 gc dc ["self"] (getSp C "size")
  k_parts : FnOk P w K mg base (L2.CX P w) 1 gp dp ["self"] (getSp C "share")
  k_steps : FnOk P w K mg base (L2.CX P w) 1 gs ds ["self"] (getSp C "ways")
  b_children : Binds K dc ["self"] []
  b_parts : Binds K dp ["self"] []
  b_steps : Binds K ds ["self"] []
  n_size : NoAttr K C "size"
  n_share : NoAttr K C "share"
  n_ways : NoAttr K C "ways"
/-- the promise of the law, over the heap -/
def spTop (K : PySem.W.Frag) : Sp := fun vs H Q _ => ∃ (a : Addr) (ns : List Int), vs = [.ref a] ∧ SqL K H a (ns.map V.int) ∧ ns.length ≤ 63 ∧ ∀ H', Q (.bl true) H'
theorem top_imp {C : Cn} {s : DSp} (h : ∀ (l : List Int) (X : EK) (k : D → MS → Prop), l.length ≤ 63 → (∀ M', k (.bl true) M') → s [.scr l] [] X k) : ∀ vs H Q E, spTop C.K vs H Q E → upSp C s vs H Q E := fun vs H Q E ⟨a, ns, e, hS, hl, q⟩ => by
  subst e
  refine ⟨[], H, [], [.scr ns], fun _ _ => False, fun y _ => y = .bl true, ⟨Ex.rfl, rfl, List.nodup_nil, fun k c a' e _ => by simp at e⟩, .one (.scr hS), h ns _ _ hl fun _ => rfl, ?_, fun _ _ _ _ _ _ _ z => z.elim⟩
  rintro y M' v th' F' H' rfl hs l r
  cases r
  exact q H'
end
theorem walkL {l : PySem.W.OpenLaw} {k : Nat} {x : Str} {q : Program} {loose : List Str} {XP : (Str → Option Value) → Heap → Prop} {YP : World → Heap → Prop} {d : DefRec} {K : Params → PySem.W.Frag} (hn : l.most = some 63) (hdf : d.params.defaults = []) (hr : Room k callerA)
    (hY : ∀ (w : World) (h : Heap), YP w h → (K w.params).In h)
    (F : ∀ (w : World) (mg : Str → Option Value) (fa : Addr) (h : Heap), (K w.params).In h → h.Ns mainGlobals mg → mg d.name = some (.ref fa) →
      ∃ fd : FuncData, (∀ (s : Shared) (u : Value), BindsTo s fd ⟨[u], []⟩ [(x, u)]) ∧ ∀ base : Heap, (K w.params).In base → base.Ns mainGlobals mg → FnOk l.prog w (K w.params) mg base (L2.CX l.prog w) k fa fd [x] (spTop (K w.params))) :
    PySem.W.WalkO q loose XP YP l.row.toRowW d [] (fun f vs => PySem.call f vs) :=
  L2.walk_of (n := 63) (k := k) (x := x) (CX := fun w => L2.CX l.prog w) (sp := fun w => spTop (K w.params)) hn (by decide) hdf hr hY F (fun _ _ a ns hl _ hS => ⟨a, ns, rfl, hS, hl, fun _ => rfl⟩) fun _ _ _ _ _ ⟨_, _, _, _, _, _, _, _, _, _, _, _, z⟩ => z.elim
end PD

/-! PDn: try with several clauses, each with or without a name; over data. -/
namespace PD
open PySem PySem.Spec PyProof.Rows L2
/-- a clause: the class that it names, the slot of its name (if any), its suite -/
structure Kl where
  c : Value
  o : Option Nat
  ts : Addr → Value → Option Addr → TS
def Kl.ends (k : Kl) (De : Ends) : Ends := match k.o with
  | none => De
  | some i => { nx := fun σ H => De.nx (σ.set i none) H, rt := De.rt, bk := fun σ H => De.bk (σ.set i none) H, ct := fun σ H => De.ct (σ.set i none) H }
def Kl.sts (k : Kl) (a : Addr) (σ : L2.St) : L2.St := match k.o with
  | none => σ
  | some i => σ.set i (some (.ref a))
def wKl (K : PySem.W.Frag) (Wo : WX) (De : Ends) : List Kl → WX
  | [] => Wo
  | k :: r => fun cls d σ H => ∃ b, PySem.W.exmOne K cls k.c = some b ∧ (b = true → ∀ a, H a = none → k.ts a cls d (k.ends De) (k.sts a σ) H) ∧ (b = false → wKl K Wo De r cls d σ H)
/-- the text's clauses and what is told of them -/
inductive Kls (X : Cx) : List ExceptHandler → List Kl → Prop
  | nil : Kls X [] []
  | plain {x : Str} {c : Value} {ts : Addr → Value → Option Addr → TS} {b : Stmt} {bs : List Stmt} {p q : Pos} {hds : List ExceptHandler} {l : List Kl} : Names X x c →
      (∀ (a : Addr) (oe : Obj) (cls : Value) (d : Option Addr) (pn : List (Addr × Obj)), Zc cls d oe → (∃ vs, oe.data = .fields vs) → PSs (X.suite a ((a, oe) :: pn)) (b :: bs) (ts a cls d)) → Kls X hds l → Kls X (.ExceptHandler (some (.Name x p)) none (b :: bs) q :: hds) (⟨c, none, ts⟩ :: l)
  | named {x n : Str} {c : Value} {i : Nat} {ts : Addr → Value → Option Addr → TS} {b : Stmt} {bs : List Stmt} {p q : Pos} {hds : List ExceptHandler} {l : List Kl} : Names X x c → X.N[i]? = some n → X.env.kindOf n = some .local →
      (∀ (a : Addr) (oe : Obj) (cls : Value) (d : Option Addr) (pn : List (Addr × Obj)), Zc cls d oe → (∃ vs, oe.data = .fields vs) → PSs (X.suite a ((a, oe) :: pn)) (b :: bs) (ts a cls d)) → Kls X hds l → Kls X (.ExceptHandler (some (.Name x p)) (some n) (b :: bs) q :: hds) (⟨c, some i, ts⟩ :: l)
section
variable {X : Cx} {body : List Stmt} {hd : ExceptHandler} {hds : List ExceptHandler} {l : List Kl} {pos : Pos} {tb : WX → TS} {Wo : WX}
theorem name_at {c : Value} {x : Str} {a : Addr} {oe : Obj} {pn : List (Addr × Obj)} {pins : List (Addr × Obj)} {σ : L2.St} {H : Hp} {s : Shared} {p : Pos} {Q : Value → Shared → Prop} {E : Value → Shared → Prop} (hc : Names X x c) (S : Inv (X.suite a ((a, oe) :: pn)) pins σ H s) (q : Q c s) :
    wpAny (model X.prog X.w) (X.A.mark (some (.ref a))) (eval (.Name x p) X.env) Q E s := by
  obtain ⟨hg, hdb, h⟩ := hc
  rcases h with hm | ⟨hm, hv, hn⟩
  · exact ld_glob (X := X.suite a ((a, oe) :: pn)) S hg hm q hdb
  · exact ld_blt (X := X.suite a ((a, oe) :: pn)) S hg hm hv q hn hdb
theorem flow_out {pins : List (Addr × Obj)} {De : Ends} {pn : List (Addr × Obj)} {xe : Value → Shared → Prop} {f : Flow} {s : Shared} (unTry : ∀ {σ : L2.St} {H : Hp}, Inv (X.tr pn xe) [] σ H s → Inv X pins σ H s) (h : SP (X.tr pn xe) [] De f s) : SP X pins De f s := by
  cases f
  case ret u => exact let ⟨v, σ, H, J, r, q⟩ := h; ⟨v, σ, H, unTry J, r, q⟩
  all_goals exact let ⟨σ, H, J, q⟩ := h; ⟨σ, H, unTry J, q⟩
/-- what is known of an exception at a that has landed: the state as it was (I0, up to slots), the heap now -/
structure Cgt (X : Cx) (pins : List (Addr × Obj)) (σ : L2.St) (H : Hp) (cls : Value) (d : Option Addr) (a : Addr) (B : Heap) (I0 s : Shared) : Prop where
  inv : Inv X pins σ H I0
  low : ∀ b o, I0.heap.get? b = some o → b ∉ frs X.stack → B.get? b = some o
  ups : I0.heap.UpToSlots s.heap
  fly : HandSPX.FlyingZ B (X.env :: X.outer) a (Zc cls d) s.heap
  out : H a = none
  os : s.os = I0.os
  bare : AllBare s.gens
theorem Cgt.now {pins : List (Addr × Obj)} {σ : L2.St} {H : Hp} {cls : Value} {d : Option Addr} {a : Addr} {B : Heap} {I0 s : Shared} (c : Cgt X pins σ H cls d a B I0 s) : Inv X pins σ H s := Inv.landed c.inv c.low c.fly.1 c.ups c.os c.bare
theorem Cgt.at_suite {pins : List (Addr × Obj)} {σ : L2.St} {H : Hp} {cls : Value} {d : Option Addr} {a : Addr} {B : Heap} {I0 s : Shared} (c : Cgt X pins σ H cls d a B I0 s) (hf : X.env.frame = some X.env.locals) :
    ∃ oe vs, s.heap.get? a = some oe ∧ Zc cls d oe ∧ oe.data = .fields vs ∧ Inv (X.suite a ((a, oe) :: (X.pn ++ pins))) [] σ H s := by
  obtain ⟨oe, vs, h1, h2, h3⟩ := c.fly.there
  have away : a ∉ frs (X.env :: X.outer) := fun hm => by
    obtain ⟨_, o, ho, hn⟩ := c.fly.2.2.1.mem hm
    rw [h1] at ho
    cases ho
    exact hn _ h3
  refine ⟨oe, vs, h1, h2, h3, c.now.suite h1 h3 c.out (fun z => away ?_) fun hm => ?_⟩
  · exact List.mem_filterMap.mpr ⟨X.env, List.mem_cons_self, by rw [hf, z]⟩
  · obtain ⟨e, he, q⟩ := List.mem_filterMap.mp hm
    exact away (List.mem_filterMap.mpr ⟨e, List.mem_cons_of_mem _ he, q⟩)
theorem Cgt.on {pins : List (Addr × Obj)} {σ : L2.St} {H : Hp} {cls : Value} {d : Option Addr} {a : Addr} {B : Heap} {I0 s : Shared} (c : Cgt X pins σ H cls d a B I0 s) {h : Heap} (f : HandSPX.FlyingZ B (X.env :: X.outer) a (Zc cls d) h) (u : s.heap.UpToSlots h) :
    Cgt X pins σ H cls d a B I0 { s with heap := h } := ⟨c.inv, c.low, c.ups.trans u, f, c.out, c.os, c.bare⟩
/-- no clause is left: it goes on -/
theorem Cgt.passes {pins : List (Addr × Obj)} {σ : L2.St} {H : Hp} {cls : Value} {d : Option Addr} {a : Addr} {B : Heap} {I0 s : Shared} {De : Ends} (hs : X.stack = X.env :: X.outer) (hf : X.env.frame = some X.env.locals) (tk : Takes X Wo)
    (c : Cgt X pins σ H cls d a B I0 s) (w : Wo cls d σ H) : wpAny (model X.prog X.w) X.A (handleBy (.ref a) X.env []) (SP X pins De) X.xe s := by
  refine wpAny_handleBy_nil ?_
  obtain ⟨_, _, _, oe, vs, T, _, _, h1, _, h2, h3, _⟩ := id c.fly
  have last : wpAny (model X.prog X.w) X.A (setFlight (.ref a) X.env.frame) (fun _ s4 => wpAny (model X.prog X.w) X.A (throw (.ref a) : Sem Flow) (SP X pins De) X.xe s4) X.xe s := by
    rw [hf]
    refine HandSPX.setFlight_upZ c.fly fun h hh u => wpAny_throw (tk _ _ ⟨a, B, I0, pins, σ, H, cls, d, rfl, c.inv, c.low, c.ups.trans u, .inr (.inr ?_), c.out, c.os, c.bare, w⟩)
    rw [hs]
    exact hh
  unfold PySem.passOn
  refine wpAny_bind (wpAny_field h1 h2 h3 ?_)
  rw [if_neg (show ¬ ((Value.ref T == Value.none) = true) by simp)]
  first
    | exact wpAny_bind (wpAny_pure (wpAny_bind last))
    | exact wpAny_bind last
theorem Cgt.suite_end {pins : List (Addr × Obj)} {q : Addr × Obj} {a : Addr} {De : Ends} {f : Flow} {s : Shared} (ok : X.Ok) (h : SP (X.suite a (q :: (X.pn ++ pins))) [] De f s) : SP X pins De f s := by
  cases f
  case ret u => exact let ⟨v, σ, H, J, r, z⟩ := h; ⟨v, σ, H, J.unsuite ok, r, z⟩
  all_goals exact let ⟨σ, H, J, z⟩ := h; ⟨σ, H, J.unsuite ok, z⟩
theorem Cgt.handled {pins : List (Addr × Obj)} {σ : L2.St} {H : Hp} {cls : Value} {d : Option Addr} {a : Addr} {B : Heap} {I0 s : Shared} {De : Ends} (hN : X.N.Nodup) (hs : X.stack = X.env :: X.outer) (hf : X.env.frame = some X.env.locals) (tk : Takes X Wo) (ok : X.Ok)
    (c : Cgt X pins σ H cls d a B I0 s) {hds : List ExceptHandler} {l : List Kl} (k : Kls X hds l) : wKl X.K Wo De l cls d σ H → wpAny (model X.prog X.w) X.A (handleBy (.ref a) X.env hds) (SP X pins De) X.xe s := by
  obtain ⟨oe, vs, h1, h2, h3, S⟩ := c.at_suite hf
  have ty : PySem.W.Looks (model X.prog X.w) s.heap (typeOf (.ref a)) cls := fun A Q E s k q => wpAny_typeOf_ref (k _ _ h1) (by rw [h2.1]; exact q)
  induction k with
  | nil => exact fun w => c.passes hs hf tk w
  | plain hc hsu r ih =>
    rintro ⟨b, hb, yes, no⟩
    refine wpAny_handleBy_cons (codeAny_handlers_test ?_) (fun q => by cases q)
    refine name_at hc S ((PySem.W.exm_one (M := model X.prog X.w) c.now.kIn ty hb).here ?_)
    cases b
    case false => exact ih (no rfl)
    case true =>
      refine codeAny_handlers_suite (HandSPX.lands_againZ c.fly fun h f u => ?_)
      obtain ⟨oe2, vs2, g1, g2, g3, S2⟩ := (c.on f u).at_suite hf
      exact wpAny_mono ((hsu a oe2 cls d (X.pn ++ pins) g2 ⟨_, g3⟩).run [] _ _ H _ S2 (yes rfl a c.out)) (fun f s6 z => Cgt.suite_end ok z) fun _ _ z => False.elim z
  | @named x n cv i ts b0 bs p q0 hds2 l2 hc hi hl hsu r ih =>
    rintro ⟨b, hb, yes, no⟩
    refine wpAny_handleBy_cons (codeAny_handlers_test ?_) (fun q => by cases q)
    refine name_at hc S ((PySem.W.exm_one (M := model X.prog X.w) c.now.kIn ty hb).here ?_)
    cases b
    case false => exact ih (no rfl)
    case true =>
      refine codeAny_handlers_suite_as (HandSPX.lands_againZ c.fly fun h f u => ?_)
      obtain ⟨oe2, vs2, g1, g2, g3, S2⟩ := (c.on f u).at_suite hf
      refine store_ok (X := X.suite a ((a, oe2) :: (X.pn ++ pins))) (v := .ref a) S2 hN hi (.inl hl) rfl (fun s5 S5 => ?_) (.inr hl)
      refine wpAny_mono ((hsu a oe2 cls d (X.pn ++ pins) g2 ⟨_, g3⟩).run [] s5 _ H _ S5 (yes rfl a c.out)) (fun f s6 z => ?_) fun _ _ z => False.elim z
      have bye : ∀ {τ : L2.St} {H6 : Hp} {Q : Shared → Prop}, Inv X pins τ H6 s6 → (∀ s7, Inv X pins (τ.set i none) H6 s7 → Q s7) → wpAny (model X.prog X.w) X.A (do bindName X.env n .none; unbindBehindTheSuite X.env n q0) (fun _ s7 => Q s7) X.xe s6 := fun J hq => gone_ok J hN hi hl hq
      have z2 := Cgt.suite_end ok z
      cases f
      case ret u => exact let ⟨v, τ, H6, J, rr, w⟩ := z2; bye J fun s7 J7 => ⟨_, _, _, J7, rr, w⟩
      all_goals exact let ⟨τ, H6, J, w⟩ := z2; bye J fun s7 J7 => ⟨_, _, J7, w⟩
/-- try: .. except C: .. except D as e: .. -/
theorem ps_try_kls (hN : X.N.Nodup) (hs : X.stack = X.env :: X.outer) (hf : X.env.frame = some X.env.locals) (tk : Takes X Wo)
    (hb : ∀ (W : WX) (pn : List (Addr × Obj)) (xe : Value → Shared → Prop), Takes (X.tr pn xe) W → PassesOwn (model X.prog X.w) X.A X.env xe → PSs (X.tr pn xe) body (tb W)) (hh : Kls X (hd :: hds) l) :
    PS X (.Try body (hd :: hds) [] [] pos) (fun De σ H => tb (wKl X.K Wo De l) De σ H) := by
  refine ⟨fun pins s σ H De I h => ?_⟩
  have ok := I.ok
  refine wpAny_Try_except (wpAny_mono ((hb (wKl X.K Wo De l) (X.pn ++ pins) (fun e s1 => wpAny (model X.prog X.w) X.A (noteFrame e X.env) (fun _ s2 => wpAny (model X.prog X.w) X.A (setFlight e none) (fun _ s3 => wpAny (model X.prog X.w) X.A (handleBy e X.env (hd :: hds)) (SP X pins De) X.xe s3) X.xe s2) X.xe s1)
    (fun u s1 xx => ?_) PassesOwn.looking).run [] s σ H De (I.toTry _) h) (fun f s1 z => ?_) fun _ _ z => z)
  · obtain ⟨a, B, I0, pins0, σ0, H0, cls, d, e, J0, low, up, sky, out, os, bare, w⟩ := xx
    subst e
    have J : Inv X pins σ0 H0 I0 := J0.ofTry ok
    show wpAny (model X.prog X.w) X.A (noteFrame (.ref a) X.env) _ _ _
    exact Sky.land Zc.steady (by rw [ok.frames, hs]) hf (by rw [← hs]; exact sky) fun h3 fl up3 => Cgt.handled hN hs hf tk ok (s := { s1 with heap := h3 }) ⟨J, low, up.trans up3, fl, out, os, bare⟩ hh w
  · have z2 : SP X pins De f s1 := flow_out (fun J => J.ofTry ok) z
    cases f
    case next => exact wpAny_execs_nil z2
    all_goals exact z2
end
end PD

/-! PDo: try, over data. -/
namespace PD
open PySem PySem.Spec PyProof.Rows L2
/-- an error of the class e is what «except c» takes -/
def exSub (e c : Str) : Bool := decide (e = c) || decide (c = "SweetError")
/-- a clause over data: a plain suite; «as e: x.append(e.field)» (e in slot i, x in slot j); «as e: x = e.field» -/
inductive Dk where
  | plain (c : Str) (ds : DS)
  | app (c fl : Str) (i j : Nat)
  | put (c fl : Str) (i j : Nat)
def dkCls : Dk → Str
  | .plain c _ => c
  | .app c _ _ _ => c
  | .put c _ _ _ => c
def dkRun : Dk → Exn → DS
  | .plain _ ds, _ => fun g M N => ds g M { N with ex := fun _ _ _ => False }
  | .app c fl i j, e => fun g M N => ∃ y k xs, i ≠ j ∧ i < g.length ∧ e = ⟨c, some (fl, y)⟩ ∧ g[j]? = some (some (.ptr k)) ∧ M[k]? = some (.lst xs) ∧ xs.length < sizeLine ∧ N.nx (g.set i none) (M.set k (.lst (xs ++ [y])))
  | .put c fl i j, e => fun g M N => ∃ y, i ≠ j ∧ i < g.length ∧ e = ⟨c, some (fl, y)⟩ ∧ N.nx ((g.set i none).set j (some y)) M
def hdlD : List Dk → Exn → DS
  | [], e => fun g M N => N.ex e g M
  | k :: r, e => fun g M N => if exSub e.cls (dkCls k) = true then dkRun k e g M N else hdlD r e g M N
def sTry (L : List Str) (b : DS) (ks : List Dk) : DS := fun g M N => b g M { N with ex := fun e g' M' => e.cls ∈ L ∧ hdlD ks e g' M' N }
section
variable {X : Cx} {C : Cn} {W : WX}
/-- «x.append(e.field)» in a clause's suite -/
def tApp (C : Cn) (c fl : Str) (i j : Nat) : Addr → Value → Option Addr → TS := fun a cls d De σ H => ∃ th F g M dd v y k xs, At C th F H σ g M ∧ σ[i]? = some (some (.ref a)) ∧ cls = .ref (C.cl c) ∧ d = some dd ∧ H dd = some (.xd [(fl, v)]) ∧ Rep C th F v y ∧ g[j]? = some (some (.ptr k)) ∧ M[k]? = some (.lst xs) ∧ xs.length < sizeLine ∧
  ∀ σ' th' F' H', At C th' F' H' σ' g (M.set k (.lst (xs ++ [y]))) → Le th F th' F' → De.nx σ' H'
def tPut (C : Cn) (c fl : Str) (i j : Nat) : Addr → Value → Option Addr → TS := fun a cls d De σ H => ∃ th F g M dd v y, At C th F H σ g M ∧ σ[i]? = some (some (.ref a)) ∧ cls = .ref (C.cl c) ∧ d = some dd ∧ H dd = some (.xd [(fl, v)]) ∧ Rep C th F v y ∧
  ∀ σ', At C th F H σ' (g.set j (some y)) M → De.nx σ' H
theorem app_up {c fl : Str} {i j : Nat} {a : Addr} {cls : Value} {d : Option Addr} {tb : TE} {K : PySem.W.Frag} (htb : ∀ σ H Q, (∃ dd v, σ[i]? = some (some (.ref a)) ∧ cls = .ref (C.cl c) ∧ d = some dd ∧ H dd = some (.xd [(fl, v)]) ∧ Q v H) → tb σ H Q) (De : Ends) (σ : L2.St) (H : Hp)
    (h : tApp C c fl i j a cls d De σ H) : tBM K "list" rAppend (tVar j) (tCons tb tNil) σ H fun _ H' => De.nx σ H' := by
  obtain ⟨th, F, g, M, dd, v, y, k, xs, hA, ei, ec, ed, eh, rv, eg, em, hl, q⟩ := h
  obtain ⟨u, eu, ru⟩ := hA.sl.2 j _ eg
  cases ru with
  | @ptr ad _ et =>
    obtain ⟨nF, vs, hv, rs⟩ := hA.hs.cell _ _ _ em et
    refine ⟨_, eu, .inl ⟨rfl, vs, SqL.of hv⟩, htb σ H _ ⟨dd, v, ei, ec, ed, eh, ad, vs, v, rfl, rfl, hv, by rw [RepL.len rs]; exact hl, ?_⟩⟩
    exact q σ th F _ ⟨hA.hs.put et nF ⟨nF, _, upd_same, rs.app (.one rv)⟩, hA.sl⟩ Le.rfl
theorem put_up {c fl : Str} {i j : Nat} {a : Addr} {cls : Value} {d : Option Addr} {tb : TE} (htb : ∀ σ H Q, (∃ dd v, σ[i]? = some (some (.ref a)) ∧ cls = .ref (C.cl c) ∧ d = some dd ∧ H dd = some (.xd [(fl, v)]) ∧ Q v H) → tb σ H Q) (De : Ends) (σ : L2.St) (H : Hp)
    (h : tPut C c fl i j a cls d De σ H) : tAsg tb (gName j) De σ H := by
  obtain ⟨th, F, g, M, dd, v, y, hA, ei, ec, ed, eh, rv, q⟩ := h
  exact htb σ H _ ⟨dd, v, ei, ec, ed, eh, q _ ⟨hA.hs, hA.sl.set j rv⟩⟩
theorem by_I {c : Str} {qn : Str} {fI : Addr} {i : Nat} {n : Str} {a : Addr} {oe : Obj} {cls : Value} {d : Option Addr} {pn : List (Addr × Obj)} {p pos : Pos} (T : PySem.ErrI.LowTxt X.K X.mg c qn (C.cl c) fI) (hz : Zc cls d oe) (hf : ∃ vs, oe.data = .fields vs) (he : PE (X.suite a ((a, oe) :: pn)) (.Name n p) (tVar i))
    (hb : attributeBase (.Name n p) "index" X.env (eval (.Name n p) X.env) = eval (.Name n p) X.env := by rfl) : PE (X.suite a ((a, oe) :: pn)) (.Attribute (.Name n p) "index" pos) (fun σ H Q => ∃ dd v, σ[i]? = some (some (.ref a)) ∧ cls = .ref (C.cl c) ∧ d = some dd ∧ H dd = some (.xd [(("index" : Str), v)]) ∧ Q v H) :=
  pe_imp (pe_byLow_I T hz hf he hb) fun σ H Q ⟨dd, v, ei, ec, ed, eh, q⟩ => ⟨_, ei, rfl, ec, dd, v, ed, eh, q⟩
theorem by_W {c : Str} {qn : Str} {fI : Addr} {i : Nat} {n : Str} {a : Addr} {oe : Obj} {cls : Value} {d : Option Addr} {pn : List (Addr × Obj)} {p pos : Pos} (T : PySem.ErrW.LowTxt X.K X.mg c qn (C.cl c) fI) (hz : Zc cls d oe) (hf : ∃ vs, oe.data = .fields vs) (he : PE (X.suite a ((a, oe) :: pn)) (.Name n p) (tVar i))
    (hb : attributeBase (.Name n p) "word" X.env (eval (.Name n p) X.env) = eval (.Name n p) X.env := by rfl) : PE (X.suite a ((a, oe) :: pn)) (.Attribute (.Name n p) "word" pos) (fun σ H Q => ∃ dd v, σ[i]? = some (some (.ref a)) ∧ cls = .ref (C.cl c) ∧ d = some dd ∧ H dd = some (.xd [(("word" : Str), v)]) ∧ Q v H) :=
  pe_imp (pe_byLow_W T hz hf he hb) fun σ H Q ⟨dd, v, ei, ec, ed, eh, q⟩ => ⟨_, ei, rfl, ec, dd, v, ed, eh, q⟩
/-- the clause as it is handled -/
def klOf (C : Cn) : Dk → Kl
  | .plain c ds => ⟨.ref (C.cl c), none, fun _ _ _ => upS C W0 ds⟩
  | .app c fl i j => ⟨.ref (C.cl c), some i, tApp C c fl i j⟩
  | .put c fl i j => ⟨.ref (C.cl c), some i, tPut C c fl i j⟩
theorem slot_set {σ : L2.St} {i : Nat} {x : Option V} (h : i < σ.length) : (σ.set i x)[i]? = some x := List.getElem?_set_self h
theorem set_ne' {g : En} {i j : Nat} (h : i ≠ j) (x : Option D) : (g.set i x)[j]? = g[j]? := List.getElem?_set_ne h
theorem set_set' {g : En} {i : Nat} (x y : Option D) : (g.set i x).set i y = g.set i y := List.set_set ..
theorem hdl_up {K : PySem.W.Frag} {L : List Str} {De : Ends} {th : List Addr} {F : Hp} {N : DN} (ln : LkN C W De th F N) :
    ∀ {ks : List Dk}, (∀ k ∈ ks, ∀ e ∈ L, PySem.W.exmOne K (.ref (C.cl e)) (.ref (C.cl (dkCls k))) = some (exSub e (dkCls k))) →
    ∀ (e : Exn) (g : En) (M : MS) (σ : L2.St) (th' : List Addr) (F' H' : Hp) (cls : Value) (dd : Option Addr), e.cls ∈ L → hdlD ks e g M N → At C th' F' H' σ g M → Le th F th' F' → ExcAt C th' F' H' e cls dd → wKl K W De (ks.map (klOf C)) cls dd σ H'
  | [], _, e, g, M, σ, th', F', H', cls, dd, _, h, hA, l, x => ln.ex e g M σ th' F' H' cls dd h hA l x
  | k :: ks, hk, e, g, M, σ, th', F', H', cls, dd, he, h, hA, l, x => by
    have ec : (klOf C k).c = .ref (C.cl (dkCls k)) := by cases k <;> rfl
    refine ⟨exSub e.cls (dkCls k), by rw [ec, x.1]; exact hk k List.mem_cons_self _ he, fun yes a ha => ?_, fun no => ?_⟩
    · have h2 : dkRun k e g M N := by
        have h3 : (if exSub e.cls (dkCls k) = true then dkRun k e g M N else hdlD ks e g M N) := h
        rw [if_pos yes] at h3
        exact h3
      have ln2 := ln.mono l
      cases k with
      | plain c ds => exact ⟨th', F', g, M, { N with ex := fun _ _ _ => False }, hA, ⟨ln2.nx, ln2.rt, ln2.bk, ln2.ct, fun _ _ _ _ _ _ _ _ _ z => z.elim⟩, h2⟩
      | app c fl i j =>
        obtain ⟨y, kk, xs, hij, hig, ee, eg, em, hl, q⟩ := h2
        subst ee
        obtain ⟨x1, ad, v, x2, x3, x4⟩ := x
        refine ⟨th', F', g.set i none, M, ad, v, y, kk, xs, ⟨hA.hs, hA.sl.forget i _⟩, slot_set (by rw [hA.sl.1]; exact hig), x1, x2, x3, x4, by rw [set_ne' hij]; exact eg, em, hl, fun σ' th2 F2 H2 a2 l2 => ?_⟩
        refine ln2.nx _ _ (σ'.set i none) th2 F2 H2 q ⟨a2.hs, ?_⟩ l2
        have s := a2.sl.forget i none
        rwa [set_set'] at s
      | put c fl i j =>
        obtain ⟨y, hij, hig, ee, q⟩ := h2
        subst ee
        obtain ⟨x1, ad, v, x2, x3, x4⟩ := x
        refine ⟨th', F', g.set i none, M, ad, v, y, ⟨hA.hs, hA.sl.forget i _⟩, slot_set (by rw [hA.sl.1]; exact hig), x1, x2, x3, x4, fun σ' a2 => ?_⟩
        refine ln2.nx _ _ (σ'.set i none) th' F' H' q ⟨a2.hs, ?_⟩ Le.rfl
        have s := a2.sl.forget i none
        have e2 : ((g.set i none).set j (some y)).set i none = (g.set i none).set j (some y) := by
          refine List.ext_getElem? fun m => ?_
          by_cases h : i = m
          · subst h
            rw [List.getElem?_set_ne (Ne.symm hij)]
            by_cases hl2 : i < g.length
            · rw [List.getElem?_set_self (by rw [List.length_set, List.length_set]; exact hl2), List.getElem?_set_self hl2]
            · rw [List.getElem?_eq_none (by rw [List.length_set, List.length_set, List.length_set]; omega), List.getElem?_eq_none (by rw [List.length_set]; omega)]
          · rw [List.getElem?_set_ne h]
        rwa [e2] at s
    · have h2 : hdlD ks e g M N := by
        have h3 : (if exSub e.cls (dkCls k) = true then dkRun k e g M N else hdlD ks e g M N) := h
        rw [if_neg (by rw [no]; decide)] at h3
        exact h3
      exact hdl_up ln (fun k2 hk2 => hk k2 (List.mem_cons_of_mem _ hk2)) e g M σ th' F' H' cls dd he h2 hA l x
theorem s_try {L : List Str} {db : DS} {ks : List Dk} {body : List Stmt} {hd : ExceptHandler} {hds : List ExceptHandler} {pos : Pos} (hN : X.N.Nodup) (tk : Takes X W)
    (hb : ∀ (W' : WX) (pn : List (Addr × Obj)) (xe : Value → Shared → Prop), Takes (X.tr pn xe) W' → PassesOwn (model X.prog X.w) X.A X.env xe → PSs (X.tr pn xe) body (upS C W' db)) (hh : Kls X (hd :: hds) (ks.map (klOf C)))
    (hk : ∀ k ∈ ks, ∀ e ∈ L, PySem.W.exmOne X.K (.ref (C.cl e)) (.ref (C.cl (dkCls k))) = some (exSub e (dkCls k))) (hs : X.stack = X.env :: X.outer := by rfl) (hf : X.env.frame = some X.env.locals := by rfl) : PS X (.Try body (hd :: hds) [] [] pos) (upS C W (sTry L db ks)) :=
  ps_imp (ps_try_kls (tb := fun W' => upS C W' db) hN hs hf tk hb hh) fun De σ H ⟨th, F, g, M, N, a, ln, h⟩ =>
    ⟨th, F, g, M, { N with ex := fun e g' M' => e.cls ∈ L ∧ hdlD ks e g' M' N }, a, ⟨ln.nx, ln.rt, ln.bk, ln.ct, fun e g' M' σ' th' F' H' cls dd q a' l x => hdl_up ln hk e g' M' σ' th' F' H' cls dd q.1 q.2 a' l x⟩, h⟩
theorem kl_plain {c : Str} {ds : DS} {b : Stmt} {bs : List Stmt} {p q : Pos} {hds : List ExceptHandler} {l : List Dk} (hm : X.mg c = some (.ref (C.cl c))) (h : ∀ (a : Addr) (pn : List (Addr × Obj)), PSs (X.suite a pn) (b :: bs) (upS C W0 ds)) (r : Kls X hds (l.map (klOf C)))
    (hg : Gl X c := by rfl) (hdb : (c == ("__debug__" : Str)) = false := by decide) : Kls X (.ExceptHandler (some (.Name c p)) none (b :: bs) q :: hds) ((Dk.plain c ds :: l).map (klOf C)) :=
  .plain ⟨hg, hdb, .inl hm⟩ (fun a oe cls d pn _ _ => h a ((a, oe) :: pn)) r
theorem kl_app {c fl n x : Str} {i j : Nat} {p q p1 p2 p3 p4 p5 p6 : Pos} {hds : List ExceptHandler} {l : List Dk} (hm : X.mg c = some (.ref (C.cl c)))
    (hby : ∀ (a : Addr) (oe : Obj) (cls : Value) (d : Option Addr) (pn : List (Addr × Obj)), Zc cls d oe → (∃ vs, oe.data = .fields vs) → PE (X.suite a ((a, oe) :: pn)) (.Attribute (.Name n p1) fl p2) (fun σ H Q => ∃ dd v, σ[i]? = some (some (.ref a)) ∧ cls = .ref (C.cl c) ∧ d = some dd ∧ H dd = some (.xd [(fl, v)]) ∧ Q v H))
    (hx : ∀ (a : Addr) (pn : List (Addr × Obj)), PE (X.suite a pn) (.Name x p3) (tVar j))
    (hst : ∀ (a : Addr) (pn : List (Addr × Obj)), PE (X.suite a pn) (.Name x p3) (tVar j) → ∀ te, PE (X.suite a pn) (.Attribute (.Name n p1) fl p2) te → PS (X.suite a pn) (.Expr (.Call (.Attribute (.Name x p3) "append" p4) [.Attribute (.Name n p1) fl p2] [] p5) p6) (tDrop (tBM X.K "list" rAppend (tVar j) (tCons te tNil))))
    (r : Kls X hds (l.map (klOf C))) (hi : X.N[i]? = some n := by rfl) (hl : X.env.kindOf n = some .local := by rfl) (hg : Gl X c := by rfl) (hdb : (c == ("__debug__" : Str)) = false := by decide) :
    Kls X (.ExceptHandler (some (.Name c p)) (some n) [.Expr (.Call (.Attribute (.Name x p3) "append" p4) [.Attribute (.Name n p1) fl p2] [] p5) p6] q :: hds) ((Dk.app c fl i j :: l).map (klOf C)) :=
  .named ⟨hg, hdb, .inl hm⟩ hi hl (fun a oe cls d pn hz hf => pss_imp (pss_one (hst a _ (hx a _) _ (hby a oe cls d pn hz hf))) fun De σ H h => app_up (fun σ H Q h => h) De σ H h) r
theorem kl_put {c fl n x : Str} {i j : Nat} {p q p1 p2 p3 p6 : Pos} {hds : List ExceptHandler} {l : List Dk} (hN : X.N.Nodup) (hm : X.mg c = some (.ref (C.cl c)))
    (hby : ∀ (a : Addr) (oe : Obj) (cls : Value) (d : Option Addr) (pn : List (Addr × Obj)), Zc cls d oe → (∃ vs, oe.data = .fields vs) → PE (X.suite a ((a, oe) :: pn)) (.Attribute (.Name n p1) fl p2) (fun σ H Q => ∃ dd v, σ[i]? = some (some (.ref a)) ∧ cls = .ref (C.cl c) ∧ d = some dd ∧ H dd = some (.xd [(fl, v)]) ∧ Q v H))
    (hst : ∀ (a : Addr) (pn : List (Addr × Obj)) (te : TE), PE (X.suite a pn) (.Attribute (.Name n p1) fl p2) te → PS (X.suite a pn) (.Assign [.Name x p3] (.Attribute (.Name n p1) fl p2) p6) (tAsg te (gName j)))
    (r : Kls X hds (l.map (klOf C))) (hi : X.N[i]? = some n := by rfl) (hl : X.env.kindOf n = some .local := by rfl) (hg : Gl X c := by rfl) (hdb : (c == ("__debug__" : Str)) = false := by decide) :
    Kls X (.ExceptHandler (some (.Name c p)) (some n) [.Assign [.Name x p3] (.Attribute (.Name n p1) fl p2) p6] q :: hds) ((Dk.put c fl i j :: l).map (klOf C)) :=
  .named ⟨hg, hdb, .inl hm⟩ hi hl (fun a oe cls d pn hz hf => pss_imp (pss_one (hst a _ _ (hby a oe cls d pn hz hf))) fun De σ H h => put_up (fun σ H Q h => h) De σ H h) r
end
/-- a statement behind which a state of one's own choice is told -/
def sMid (s : DS) : DS := fun g M N => ∃ R : En → MS → Prop, s g M { N with nx := R } ∧ ∀ g' M', R g' M' → N.nx g' M'
theorem s_mid {X : Cx} {C : Cn} {W : WX} {st : Stmt} {ds : DS} (h : PS X st (upS C W ds)) : PS X st (upS C W (sMid ds)) := ps_imp h fun De σ H ⟨th, F, g, M, N, a, k, R, h1, h2⟩ =>
  ⟨th, F, g, M, { N with nx := R }, a, ⟨fun g' M' σ' th' F' H' q a' l => k.nx g' M' σ' th' F' H' (h2 g' M' q) a' l, k.rt, k.bk, k.ct, k.ex⟩, h1⟩
theorem exm_sub {K : PySem.W.Frag} {S c : Addr} {b : Bool} (h1 : PySem.W.subIn K (.ref c) (.type "BaseException") = some true) (h2 : PySem.W.isClsIn K c = true) (h3 : PySem.W.typeIn K (.ref c) = some (.type "type")) (h4 : PySem.W.subIn K (.ref S) (.ref c) = some b) : PySem.W.exmOne K (.ref S) (.ref c) = some b := by
  have e1 : (PySem.W.subIn K (.ref c) (.type "BaseException") == some true) = true := by rw [h1]; rfl
  have h2' : (PySem.W.clsIn K c).isSome = true := h2
  have e2 : ((PySem.W.clsIn K c).isSome && PySem.W.typeIn K (.ref c) == some (.type "type")) = true := by rw [h2', h3]; rfl
  show (if (PySem.W.subIn K (.ref c) (.type "BaseException") == some true) = true then (if ((PySem.W.clsIn K c).isSome && PySem.W.typeIn K (.ref c) == some (.type "type")) = true then PySem.W.subIn K (.ref S) (.ref c) else none) else none) = some b
  rw [if_pos e1, if_pos e2]
  exact h4
end PD

/-! PDp: len(set(..)) of ints. -/
namespace PD
open PySem PySem.Spec PyProof.Rows L2
def ded (l : List Int) : List Int := l.foldl step_dedup []
theorem fst_ded (ns : List Int) : firstMet (fun i => ns.getD i 0) ns.length = ded ns := by
  unfold firstMet ded
  congr 1
  refine List.ext_getElem? fun i => ?_
  rw [List.getElem?_map]
  by_cases h : i < ns.length
  · rw [List.getElem?_range h, List.getElem?_eq_getElem h]
    show some (ns.getD i 0) = _
    rw [List.getD_eq_getElem?_getD, List.getElem?_eq_getElem h]; rfl
  · rw [List.getElem?_eq_none (by rw [List.length_range]; omega), List.getElem?_eq_none (by omega)]; rfl
section
variable {X : Cx} {C : Cn} {W : WX} {a : Expr} {da : DE}
def tSetLen (K : PySem.W.Frag) (ta : TE) : TE := fun σ H Q => ta σ H fun x H1 => ∃ (l : Addr) (ns : List Int), x = V.ref l ∧ SqL K H1 l (ns.map V.int) ∧ ns.length < 64 ∧ Q (.int (ded ns).length) H1
theorem pe_setLen {ta : TE} {p p2 q pos : Pos} (hc : X.calm = true) (hg : Gl X "len") (hm : X.mg "len" = none) (hg2 : Gl X "set") (hm2 : X.mg "set" = none) (ha : PE X a ta)
    (na : starEach [a] X.env = (false, eval a X.env) :: starEach [] X.env := by rfl) : PE X (.Call (.Name "len" p) [.Call (.Name "set" p2) [a] [] q] [] pos) (tSetLen X.K ta) := ⟨fun pins s σ H Q I h => by
  refine Call_ (ld_blt I hg hm PySem.boot_len (PyProof.Rows.callWith_builtin1 (PyProof.Rows.args_cons ?_ rfl) rfl rfl))
  refine Call_ (ld_blt I hg2 hm2 PyProof.Rows.boot_set (PyProof.Rows.callWith_type1 (PyProof.Rows.args_cons (thn (ha.run pins s σ H _ I h) fun v s1 ⟨x, H1, I1, r1, l, ns, e, hq, h1, q1⟩ => PyProof.Rows.args_nil ?_) na) na rfl))
  subst e
  cases r1
  obtain ⟨its, r, pl, hz⟩ := I1.list hq
  have hl : its.toArray.size = ns.length := by rw [List.size_toArray, ← r.length, List.length_map]
  refine call_set_list (I1.ok.hd hc) pl.isList (ns := ns) (by simpa using r.ints) (by unfold scanBound; omega) fun h' tk hS hk => PyProof.Rows.args_nil ?_
  rw [hl, fst_ded] at hS
  obtain ⟨o, _, _, _, ho, _, hd, _, _, _, hf, hn⟩ := hS
  have hle : (ded ns).length ≤ ns.length := by rw [← fst_ded]; exact firstMet_length_le _ _
  have I2 : Inv X pins σ H1 { s1 with heap := h', toks := tk } := I1.kept fun b o e => hk b o (Heap.lt_size e) e
  exact call_len_set ho (by assumption) hd hf (by rw [hn]; omega) ⟨.int (ded ns).length, H1, I2.tok _, ⟨_, by rw [hn]⟩, q1⟩⟩
def dSetLen (d : DE) : DE := fun g M X k => d g M X fun x M1 => ∃ l, lstOf x M1 = some (iL l) ∧ l.length < 64 ∧ k (.int ((ded l).length : Int)) M1
theorem e_setLen {p p2 q pos : Pos} (hc : X.calm = true) (hm : X.mg "len" = none) (hm2 : X.mg "set" = none) (ha : PE X a (upE C W da)) (hK : X.K = C.K := by rfl) (hg : Gl X "len" := by rfl) (hg2 : Gl X "set" := by rfl)
    (na : starEach [a] X.env = (false, eval a X.env) :: starEach [] X.env := by rfl) : PE X (.Call (.Name "len" p) [.Call (.Name "set" p2) [a] [] q] [] pos) (upE C W (dSetLen da)) := pe_imp (pe_setLen hc hg hm hg2 hm2 ha na) fun σ H Q h => by
  obtain ⟨th, F, g, M, X', P, p, h⟩ := h
  refine p.bind h fun x v t1 F1 H1 M1 h1 rx l1 p1 => ?_
  obtain ⟨l, e, hl, q⟩ := h1
  obtain ⟨ad, vs, rfl, h2, r⟩ := lst_at p1.at_.hs rx e
  have ei := r.ofI
  subst ei
  exact ⟨ad, l, rfl, hK ▸ SqL.of h2, hl, p1.fin q (.int _)⟩
end
theorem ded_one {l : List Int} {c : Int} (hne : l ≠ []) (h : ∀ x ∈ l, x = c) : ded l = [c] := by
  have key : ∀ l : List Int, (∀ x ∈ l, x = c) → l.foldl step_dedup [c] = [c] := fun l => by
    induction l with
    | nil => intro _; rfl
    | cons x l ih =>
      intro h
      have e := h x List.mem_cons_self
      subst e
      rw [List.foldl_cons]
      have : step_dedup [x] x = [x] := by simp [step_dedup]
      rw [this]
      exact ih fun y hy => h y (List.mem_cons_of_mem _ hy)
  cases l with
  | nil => exact absurd rfl hne
  | cons x l =>
    have e := h x List.mem_cons_self
    subst e
    unfold ded
    rw [List.foldl_cons]
    have : step_dedup [] x = [x] := by simp [step_dedup]
    rw [this]
    exact key l fun y hy => h y (List.mem_cons_of_mem _ hy)
theorem ded_mem (l : List Int) : ∀ acc : List Int, ∀ x, x ∈ l.foldl step_dedup acc ↔ x ∈ acc ∨ x ∈ l := by
  induction l with
  | nil => intro acc x; simp
  | cons y l ih =>
    intro acc x
    rw [List.foldl_cons, ih]
    unfold step_dedup
    by_cases h : acc.any (· == y) = true
    · rw [if_pos h]
      simp only [List.any_eq_true, beq_iff_eq] at h
      obtain ⟨z, hz, rfl⟩ := h
      simp only [List.mem_cons]
      constructor
      · rintro (h | h)
        · exact .inl h
        · exact .inr (.inr h)
      · rintro (h | rfl | h)
        · exact .inl h
        · exact .inl hz
        · exact .inr h
    · rw [if_neg h]
      simp only [List.mem_append, List.mem_cons, List.not_mem_nil, or_false]
      constructor
      · rintro ((h | h) | h)
        · exact .inl h
        · exact .inr (.inl h)
        · exact .inr (.inr h)
      · rintro (h | h | h)
        · exact .inl (.inl h)
        · exact .inl (.inr h)
        · exact .inr h
theorem ded_two {l : List Int} {x y : Int} (hx : x ∈ l) (hy : y ∈ l) (h : x ≠ y) : 1 < (ded l).length := by
  have h1 := (ded_mem l [] x).mpr (.inr hx)
  have h2 := (ded_mem l [] y).mpr (.inr hy)
  change x ∈ ded l at h1
  change y ∈ ded l at h2
  match hd : ded l, h1, h2 with
  | [], h1, _ => cases h1
  | [z], h1, h2 =>
    simp at h1 h2
    exact absurd (h1.trans h2.symm) h
  | _ :: _ :: _, _, _ => simp
end PD

/-! PDq: enumerate over a list or a tuple. -/
namespace PD
open PySem PySem.Spec PyProof.Rows L2
def tEnumS (K : PySem.W.Frag) (ta : TA) : TI := fun σ H R => ta σ H fun vs H1 => ∃ a xs, vs = [.ref a] ∧ ((SqL K H1 a xs ∧ R (Ite K a) H1) ∨ (SqT K H1 a xs ∧ R (Iet K a) H1))
theorem pi_enumS {X : Cx} {e : Expr} {ta : TA} {p pos tpos : Pos} {elts : List Expr} {kk : Nat} (hg : Gl X "enumerate") (hm : X.mg "enumerate" = none) (ha : PA X [e] ta) (hs : starEach [e] X.env = [(false, eval e X.env)] := by rfl) :
    PI X (.Tuple elts kk tpos) (.Call (.Name "enumerate" p) [e] [] pos) (tEnumS X.K ta) := ⟨fun pins s σ H R I h => by
  refine Call_ (ld_blt I hg hm boot_enumerate (PyProof.Rows.callWith_type1 (thn (ha.run pos pins s σ H _ I h) fun us s1 ⟨vs, H1, I1, r1, q1⟩ => ?_) hs rfl))
  obtain ⟨a, xs, ex, q⟩ := q1
  subst ex
  cases r1 with
  | cons r rr =>
    cases rr
    cases r
    have two : ∀ {b : Addr} {P : Addr → Prop}, b ∈ [s1.heap.objs.size + 1, s1.heap.objs.size] → (∀ c, s1.heap.objs.size ≤ c → P c) → P b := fun {b P} hb h => by
      have e' : b = s1.heap.objs.size + 1 ∨ b = s1.heap.objs.size := by simpa using hb
      rcases e' with z | z
      · rw [z]; exact h _ (Nat.le_add_right _ _)
      · rw [z]; exact h _ (Nat.le_refl _)
    rcases q with ⟨hq, q⟩ | ⟨hq, q⟩
    · obtain ⟨its, rv, p', hz⟩ := I1.list hq
      refine call_enumerate_list p'.isList fun h' he hit hsz hk => wpAny_pyIter_enum he ?_
      exact ⟨s1.heap.objs.size + 1, [s1.heap.objs.size + 1, s1.heap.objs.size], _, _, H1, rfl, I1.kept (t' := s1.toks) hk, turn_enum a (s1.heap.objs.size + 1) s1.heap.objs.size, ⟨⟨.none, he⟩, hit, Nat.succ_ne_self _⟩, fun b hb => two hb fun c hc => I1.fpOk hc (I1.hok.fresh hc), q⟩
    · obtain ⟨its, rv, p', hz⟩ := I1.tuple hq
      have hlt : a < s1.heap.objs.size := p'.lt
      refine PySem.pd_callEnum p' fun h' he hit hsz hk => wpAny_pyIter_enum he ?_
      exact ⟨s1.heap.objs.size + 1, [s1.heap.objs.size + 1, s1.heap.objs.size], _, _, H1, rfl, I1.kept (t' := s1.toks) hk, turn_enumT a (s1.heap.objs.size + 1) s1.heap.objs.size, ⟨⟨.none, he⟩, hit, Nat.succ_ne_self _, Nat.ne_of_lt hlt, Nat.ne_of_lt (Nat.lt_succ_of_lt hlt)⟩, fun b hb => two hb fun c hc => I1.fpOk hc (I1.hok.fresh hc), q⟩⟩
def iEnS (d : DA) : DIt := fun g M X k => d g M X fun xs M1 => ∃ x ys, xs = [x] ∧ (x = .lst ys ∨ x = .tup ys) ∧ k (enumD ys) M1
section
variable {X : Cx} {C : Cn} {W : WX} {a : Expr} {ea : DA} {pos p tpos : Pos} {elts : List Expr} {kk : Nat}
theorem i_enS (hm : X.mg "enumerate" = none) (ha : PA X [a] (upA C W ea)) (hg : Gl X "enumerate" := by rfl) (hs : starEach [a] X.env = [(false, eval a X.env)] := by rfl) (hK : X.K = C.K := by rfl) : PI X (.Tuple elts kk tpos) (.Call (.Name "enumerate" p) [a] [] pos) (upI C W (iEnS ea)) := ⟨fun pins s σ H R I h => (pi_enumS hg hm ha hs).run pins s σ H R I (by
  obtain ⟨th, F, g, M, X', P, at_, h, ok, ex⟩ := h
  refine ⟨th, F, g, M, X', _, ⟨at_, fun xs M1 v t1 F1 H1 q hs l r => ?_, ex⟩, h⟩
  obtain ⟨x, ys, e, ex2, q⟩ := q
  subst e
  obtain ⟨v0, e0, r0⟩ := RepL.one' r
  subst e0
  rcases ex2 with e | e
  · subst e
    cases r0 with
    | @lst ad vs _ hf rs => exact ⟨ad, vs, rfl, .inl ⟨SqL.of (hs.ex _ _ hf), ok _ M1 t1 F1 H1 _ q hs l (giv_pair walk_enum (fun H e => SqL.of (e _ _ hf)) rs)⟩⟩
  · subst e
    cases r0 with
    | @tup ad vs _ hf rs => exact ⟨ad, vs, rfl, .inr ⟨SqT.of (hs.ex _ _ hf), ok _ M1 t1 F1 H1 _ q hs l (giv_pair walk_enumT (fun H e => SqT.of (e _ _ hf)) rs)⟩⟩)⟩
end
end PD

/-! PDr: an own object's methods and properties, and len of it. -/
namespace PD
open PySem PySem.Spec PyProof.Rows L2
section
variable {X : Cx} {CX : CXT} {k : Nat} {cl f : Addr} {fd : FuncData} {ps : List Str} {sp : Sp} {E : L2.St → XK} {m : Str} {apos pos : Pos} {o e : Expr} {es : List Expr} {ta : TE} {t : TA}
def tMethS (cl : Addr) (m : Str) (sp : Sp) (E : L2.St → XK) (ta : TE) (t : TA) : TE := fun σ H Q => ta σ H fun x H1 => ∃ a dx fs, x = .ref a ∧ H1 a = some (.ins cl dx fs) ∧ fs.lookup m = none ∧ t σ H1 fun vs H2 => sp (x :: vs) H2 Q (E σ)
theorem pe_methS {pl : Sem Bool} (he : PE X o ta) (c : Cls X.K cl) (hm : Meth X.K cl m f) (F : FnOk X.prog X.w X.K X.mg X.base CX k f fd ps sp) (hr : Room k X.A) (hb : Binds X.K fd ps []) (hx : ∀ σ, PassesAt CX X σ (E σ)) (ha : PA X (e :: es) t)
    (hst : starEach (e :: es) X.env = (false, eval e X.env) :: starEach es X.env := by rfl) (hpl : (backTo pos (starEach es X.env)).any (·.1) = false := by rfl)
    (ht : eval (.Call (.Attribute o m apos) (e :: es) [] pos) X.env = (do
      let ov ← eval o X.env
      standAt apos.atName
      let (f, first) ← holding [ov] (getMethod ov m pl)
      callWith pos f first (backTo pos (starEach (e :: es) X.env)) (backToKw pos (keywordEach [] X.env))) := by rfl) :
    PE X (.Call (.Attribute o m apos) (e :: es) [] pos) (tMethS cl m sp E ta t) := by
  refine ⟨fun pins s σ H Q I h => ?_⟩
  refine PySem.W.methodCall_KW (pl := pl) (thn (he.run pins s σ H _ I h) fun u s1 ⟨x, H1, I1, rx, a, dx, fs, ex, ea, l, q⟩ => ?_) ht
  subst ex
  obtain rfl : u = Value.ref a := rx
  refine getmeth_ok I1 ea c hm l ?_
  refine PySem.W.callWith_K (first := [.ref a]) (h₀ := X.base) I.ok.mod.kin hm.kp (thn (ha.run pos pins s1 σ H1 _ I1 q) fun us s2 ⟨vs, H2, I2, r, q2⟩ => ⟨I2.kIn, ?_⟩) hst hpl
  exact run_fnS (us := .ref a :: us) (vs := .ref a :: vs) F hr hb (hx σ) I2 (.cons rfl r) q2
theorem pe_methS0 {pl : Sem Bool} (he : PE X o ta) (c : Cls X.K cl) (hm : Meth X.K cl m f) (F : FnOk X.prog X.w X.K X.mg X.base CX k f fd ps sp) (hr : Room k X.A) (hb : Binds X.K fd ps []) (hx : ∀ σ, PassesAt CX X σ (E σ))
    (ht : eval (.Call (.Attribute o m apos) [] [] pos) X.env = (do
      let ov ← eval o X.env
      standAt apos.atName
      let (f, first) ← holding [ov] (getMethod ov m pl)
      callWith pos f first (backTo pos (starEach [] X.env)) (backToKw pos (keywordEach [] X.env))) := by rfl) :
    PE X (.Call (.Attribute o m apos) [] [] pos) (tMethS cl m sp E ta tNil) := by
  refine ⟨fun pins s σ H Q I h => ?_⟩
  refine PySem.W.methodCall_KW (pl := pl) (thn (he.run pins s σ H _ I h) fun u s1 ⟨x, H1, I1, rx, a, dx, fs, ex, ea, l, q⟩ => ?_) ht
  subst ex
  obtain rfl : u = Value.ref a := rx
  refine getmeth_ok I1 ea c hm l ?_
  exact PySem.W.callWith_K0 (first := [.ref a]) I1.kIn hm.kp (run_fnS (us := [.ref a]) (vs := [.ref a]) F hr hb (hx σ) I1 (.cons rfl .nil) q)
end
/-- o.m(..) -/
def dMeth (c : Addr) (m : Str) (s : DSp) (d : DE) (a : DA) : DE := fun g M X k => d g M X fun x M1 => ∃ j fs, x = .ptr j ∧ M1[j]? = some (.ins c fs) ∧ fs.lookup m = none ∧ a g M1 X fun xs M2 => s (x :: xs) M2 X k
/-- o.p, a property -/
def dProp (c : Addr) (s : DSp) (d : DE) : DE := fun g M X k => d g M X fun x M1 => ∃ j fs, x = .ptr j ∧ M1[j]? = some (.ins c fs) ∧ s [x] M1 X0 k
section
variable {X : Cx} {C : Cn} {W : WX} {o e : Expr} {pos apos : Pos} {es : List Expr} {d : DE} {ea : DA} {m : Str} {k : Nat} {cl f p g : Addr} {fd : FuncData} {ps : List Str} {s : DSp}
theorem de_meth {pl : Sem Bool} (he : PE X o (upE C W d)) (c : Cls X.K cl) (hm : Meth X.K cl m f) (F : FnOk X.prog X.w X.K X.mg X.base (L2.CX X.prog X.w) k f fd ps (upSp C s)) (hr : Room k X.A) (hb : Binds X.K fd ps []) (tk : Takes X W) (ha : PA X (e :: es) (upA C W ea))
    (hst : starEach (e :: es) X.env = (false, eval e X.env) :: starEach es X.env := by rfl) (hpl : (backTo pos (starEach es X.env)).any (·.1) = false := by rfl)
    (ht : eval (.Call (.Attribute o m apos) (e :: es) [] pos) X.env = (do
      let ov ← eval o X.env
      standAt apos.atName
      let (f, first) ← holding [ov] (getMethod ov m pl)
      callWith pos f first (backTo pos (starEach (e :: es) X.env)) (backToKw pos (keywordEach [] X.env))) := by rfl) :
    PE X (.Call (.Attribute o m apos) (e :: es) [] pos) (upE C W (dMeth cl m s d ea)) :=
  pe_imp (pe_methS he c hm F hr hb (fun σ => passAt tk σ) ha hst hpl ht) fun σ H Q h => by
    obtain ⟨th, F, g, M, X', P, p, h⟩ := h
    refine p.bind h fun x v t1 F1 H1 M1 h1 rx l1 p1 => ?_
    obtain ⟨j, fs, rfl, ej, el, h1⟩ := h1
    cases rx with
    | @ptr a _ et =>
      obtain ⟨nF, dx, gs, hv, rf⟩ := p1.at_.hs.cell _ _ _ ej et
      refine ⟨a, dx, gs, rfl, hv, RepF.none rf el, ?_⟩
      refine p1.bind h1 fun xs vs t2 F2 H2 M2 h2 rx l2 p2 => ?_
      exact ⟨t2, F2, M2, .ptr j :: xs, X', P, p2.at_.hs, .cons (.ptr (l2.pre _ _ et)) rx, h2, p2.ok, p2.ex⟩
theorem de_meth0 {pl : Sem Bool} (he : PE X o (upE C W d)) (c : Cls X.K cl) (hm : Meth X.K cl m f) (F : FnOk X.prog X.w X.K X.mg X.base (L2.CX X.prog X.w) k f fd ps (upSp C s)) (hr : Room k X.A) (hb : Binds X.K fd ps []) (tk : Takes X W)
    (ht : eval (.Call (.Attribute o m apos) [] [] pos) X.env = (do
      let ov ← eval o X.env
      standAt apos.atName
      let (f, first) ← holding [ov] (getMethod ov m pl)
      callWith pos f first (backTo pos (starEach [] X.env)) (backToKw pos (keywordEach [] X.env))) := by rfl) :
    PE X (.Call (.Attribute o m apos) [] [] pos) (upE C W (dMeth cl m s d dNil)) :=
  pe_imp (pe_methS0 he c hm F hr hb (fun σ => passAt tk σ) ht) fun σ H Q h => by
    obtain ⟨th, F, g, M, X', P, p, h⟩ := h
    refine p.bind h fun x v t1 F1 H1 M1 h1 rx l1 p1 => ?_
    obtain ⟨j, fs, rfl, ej, el, h1⟩ := h1
    cases rx with
    | @ptr a _ et =>
      obtain ⟨nF, dx, gs, hv, rf⟩ := p1.at_.hs.cell _ _ _ ej et
      refine ⟨a, dx, gs, rfl, hv, RepF.none rf el, ?_⟩
      exact ⟨t1, F1, M1, [.ptr j], X', P, p1.at_.hs, .cons (.ptr et) .nil, h1, p1.ok, p1.ex⟩
theorem de_propC (he : PE X o (upE C W d)) (c : Cls X.K cl) (hp : PropOf X.K cl m p g) (F : FnOk X.prog X.w X.K X.mg X.base (L2.CX X.prog X.w) k g fd ps (upSp C s)) (hr : Room (k + 1) X.A) (hb : Binds X.K fd ps []) (hx : Passes (L2.CX X.prog X.w) X.nox E0)
    (hab : attributeBase o m X.env (eval o X.env) = eval o X.env := by rfl) : PE X (.Attribute o m pos) (upE C W (dProp cl s d)) :=
  pe_imp (pe_prop he c hp F hr hb .nil hx hab) fun σ H Q h => by
    obtain ⟨th, F, g, M, X', P, p, h⟩ := h
    refine p.bind h fun x v t1 F1 H1 M1 h1 rx l1 p1 => ?_
    obtain ⟨j, fs, rfl, ej, h1⟩ := h1
    cases rx with
    | @ptr a _ et =>
      obtain ⟨nF, dx, gs, hv, rf⟩ := p1.at_.hs.cell _ _ _ ej et
      refine ⟨a, dx, gs, rfl, hv, ?_⟩
      exact ⟨t1, F1, M1, [.ptr j], X0, P, p1.at_.hs, .cons (.ptr et) .nil, h1, p1.ok, fun _ _ _ _ _ _ _ z => z.elim⟩
end
end PD

/-! PDs: len of an own object, == of games by the own def, isinstance(x, Game). -/
namespace PD
open PySem PySem.Spec PyProof.Rows L2
/-- a method, a property, the maker of an own class -/
structure Mt (K : PySem.W.Frag) (c : Addr) (m : Str) (ps : List Str) (f : Addr) (fd : FuncData) : Prop where
  m : Meth K c m f
  b : Binds K fd ps []
structure Pt (K : PySem.W.Frag) (c : Addr) (m : Str) (p f : Addr) (fd : FuncData) : Prop where
  p : PropOf K c m p f
  b : Binds K fd ["self"] []
structure Mi (K : PySem.W.Frag) (mg : Str → Option Value) (nm : Str) (c : Addr) (ps : List Str) (f : Addr) (fd : FuncData) : Prop where
  g : mg nm = some (.ref c)
  m : Mk K c f
  b : Binds K fd ps []
structure Pm (K : PySem.W.Frag) (c : Addr) : Prop where
  cl : Cls K c
  n_rules : NoAttr K c "rules"
  n_now : NoAttr K c "now"
  n_past : NoAttr K c "past"
  n_future : NoAttr K c "future"
/-! ### len(o) -/
section
variable {X : Cx} {C : Cn} {W : WX} {cl f : Addr} {fd : FuncData} {ps : List Str} {s : DSp} {sp : Sp} {k : Nat} {a : Expr} {d : DE} {pos p : Pos} {da : DE}
def rLenO (cl : Addr) (sp : Sp) : List V → Hp → VK → Prop := fun xs H Q => ∃ a dx fs, xs = [.ref a] ∧ H a = some (.ins cl dx fs) ∧ sp [.ref a] H (fun v H' => ∃ n, v = .int n ∧ 0 ≤ n ∧ n < 2 ^ 63 ∧ Q v H') E0
theorem call_lenO (hm : Meth X.K cl "__len__" f) (F : FnOk X.prog X.w X.K X.mg X.base (L2.CX X.prog X.w) k f fd ps sp) (hr : Room (k + 1) X.A) (hb : Binds X.K fd ps []) : CallR X (.builtin "len") (rLenO cl sp) := by
  intro pins s σ H xs us Q I r h
  obtain ⟨a, dx, fs, rfl, ha, h⟩ := h
  obtain ⟨u, rfl, ru⟩ := vals1 r
  obtain rfl : u = Value.ref a := ru
  obtain ⟨mA, J, _⟩ := ins_get I.hok ha
  obtain ⟨od, J, _⟩ := J.look
  obtain ⟨m, hF⟩ := I.fr
  refine PySem.W.len_K hF I.ok.mod.kin J hm.at_ hm.fn ?_
  have hl := F.len _ _ _ _ h
  have r2 : Vals [V.ref a] [Value.ref a] := .cons rfl .nil
  refine wpAny_call (codeAny_mono (F.run X.A.in1 X.stack s H ⟨[.ref a], []⟩ [.ref a] [.ref a] _ E0 hr.in1 I.env0.in1 (by
    have := hb s [.ref a] I.kIn (by simpa using hl)
    simpa using this) r2 h) fun r s' hq => ?_)
  cases r with
  | error e => exact passL pins σ H s e s' I hq
  | ok fl =>
    cases fl with
    | ret u =>
      obtain ⟨v, H', I', rv, n, e, h0, h1, q⟩ := I.after hq
      subst e
      obtain ⟨t, rfl⟩ := rv
      exact ⟨⟨h0, h1⟩, .int n, H', I'.tok _, ⟨_, rfl⟩, q⟩
    | next => exact False.elim hq
    | brk => exact False.elim hq
    | cont => exact False.elim hq
def dLenO (c : Addr) (s : DSp) (d : DA) : DE := fun g M X k => d g M X fun xs M1 => ∃ j fs, xs = [.ptr j] ∧ M1[j]? = some (.ins c fs) ∧ s [.ptr j] M1 X0 fun y M2 => ∃ n, y = .int n ∧ 0 ≤ n ∧ n < 2 ^ 63 ∧ k y M2
theorem b_lenO {ea : DA} (hm : Meth X.K cl "__len__" f) (F : FnOk X.prog X.w X.K X.mg X.base (L2.CX X.prog X.w) k f fd ps (upSp C s)) (hr : Room (k + 1) X.A) (hb : Binds X.K fd ps []) (hz : X.mg "len" = none) (ha : PA X [a] (upA C W ea)) (hg : Gl X "len" := by rfl)
    (he : starEach [a] X.env = (false, eval a X.env) :: starEach [] X.env := by rfl) : PE X (.Call (.Name "len" p) [a] [] pos) (upE C W (dLenO cl s ea)) :=
  pe_imp (pe_callB (call_lenO hm F hr hb) hg hz (by decide +kernel) ha (by decide) (by decide) he (by rfl)) fun σ H Q h => by
    obtain ⟨th, F, g, M, X', P, p, h⟩ := h
    refine p.bind h fun xs vs t1 F1 H1 M1 h1 rx l1 p1 => ?_
    obtain ⟨j, fs, rfl, ej, h1⟩ := h1
    obtain ⟨v, rfl, r⟩ := rx.one'
    cases r with
    | @ptr ad _ et =>
      obtain ⟨nF, dx, gs, hv, rf⟩ := p1.at_.hs.cell _ _ _ ej et
      refine ⟨ad, dx, gs, rfl, hv, ?_⟩
      refine ⟨t1, F1, M1, [.ptr j], X0, _, p1.at_.hs, .cons (.ptr et) .nil, h1, fun y M2 v t2 F2 H2 q hs l r => ?_, fun _ _ _ _ _ _ _ z => z.elim⟩
      obtain ⟨n, e, h0, h2, q⟩ := q
      subst e
      cases r
      exact ⟨n, rfl, h0, h2, p1.ok _ _ _ t2 F2 H2 q hs l (.int n)⟩
end
/-! ### == of games -/
def gmEq (n s : Int) (ws : List Int) (y : D) : Bool := match y with
  | .gm n2 s2 ws2 => decide (n = n2) && decide (s = s2) && decide (ws = ws2)
  | _ => false
def GmArg (M : MS) (y : D) : Prop := tyN y M ∈ tyL ∨ ∃ n s ws, y = .gm n s ws
abbrev sp_Game_eq : DSp := fun xs M X k => ∃ n s ws y, xs = [.gm n s ws, y] ∧ GmArg M y ∧ k (.bl (gmEq n s ws y)) M
abbrev rdGEq : D → D → MS → (D → Prop) → Prop := fun x y M k => ∃ n s ws, x = .gm n s ws ∧ GmArg M y ∧ k (.bl (gmEq n s ws y))
structure Gq (K : PySem.W.Frag) (c : Addr) (ps : List Str) (f : Addr) (fd : FuncData) : Prop where
  e : PySem.W.findIn K (.ref c) "__eq__" = some (some (.ref f))
  i : PySem.W.isFn K (.ref f) = true
  b : Binds K fd ps []
def allTy (l : List Value) : Bool := l.all fun v => match v with | .type _ => true | _ => false
theorem mro_tab : ∀ t ∈ tyL, ((PySem.fastBuiltinMro t).map allTy) = some true := by decide +kernel
theorem sub_ty {K : PySem.W.Frag} {C : Addr} {t : String} (h : t ∈ tyL) : PySem.W.subIn K (.type t) (.ref C) = some false := by
  have e := mro_tab t h
  show (PySem.fastBuiltinMro t).map (·.contains (.ref C)) = some false
  cases hm : PySem.fastBuiltinMro t with
  | none => rw [hm] at e; cases e
  | some l =>
    rw [hm] at e
    show some (l.contains (.ref C)) = some false
    have e2 : allTy l = true := by simpa using e
    have : l.contains (.ref C) = false := by
      rw [List.contains_eq_any_beq, List.any_eq_false]
      intro v hv
      have := List.all_eq_true.mp e2 v hv
      cases v <;> first | (cases this; done) | (simp; done) | (intro z; cases z)
    rw [this]
/-- the value w is of a built-in type, or an instance of C -/
def TyG (K : PySem.W.Frag) (C : Addr) (H : Hp) (w : V) : Prop := (∃ t ∈ tyL, TyX K H w (.type t)) ∨ ∃ a dx fs, w = .ref a ∧ H a = some (.ins C dx fs)
def rGq (K : PySem.W.Frag) (C : Addr) (sp : Sp) : R2 := fun x y H Q => ∃ a dx fs, x = .ref a ∧ H a = some (.ins C dx fs) ∧ TyG K C H y ∧ sp [x, y] H (fun v H' => (∃ b, v = .bl b) ∧ Q v H') E0
section
variable {X : Cx} {C : Cn} {W : WX} {c f : Addr} {fd : FuncData} {ps : List Str} {sp : Sp} {k : Nat} {a b : Expr} {da db : DE} {pos : Pos}
theorem op_gq (G : Gq X.K c ps f fd) (F : FnOk X.prog X.w X.K X.mg X.base (L2.CX X.prog X.w) k f fd ps sp) (hr : Room k X.A) : OpR X (compareOp .Eq) (rGq X.K c sp) := by
  intro pins s σ H x y v u Q I rx ry hq
  obtain ⟨a, dx, fs, rfl, ha, ty, h⟩ := hq
  obtain rfl : v = Value.ref a := rx
  obtain ⟨mA, J, _⟩ := ins_get I.hok ha
  obtain ⟨od, J, _⟩ := J.look
  obtain ⟨m, hF⟩ := I.fr
  have key : ∃ tb, PySem.W.Looks (model X.prog X.w) s.heap (typeOf u) tb ∧ PySem.W.notFirst X.K c tb = true := by
    rcases ty with ⟨t, ht, ty⟩ | ⟨b, dy, gs, rfl, hb⟩
    · obtain ⟨P, Z, p, _⟩ := kit_of I ry ty
      exact ⟨_, Z.ty _ _ I.kIn p, by unfold PySem.W.notFirst; rw [sub_ty ht]; simp⟩
    · obtain rfl : u = Value.ref b := ry
      obtain ⟨mB, J', _⟩ := ins_get I.hok hb
      obtain ⟨od', J', _⟩ := J'.look
      exact ⟨_, J'.type, by unfold PySem.W.notFirst; simp⟩
  obtain ⟨tb, hb, hn⟩ := key
  refine PySem.W.cmp_K (op := .Eq) (tb := tb) hr.units0 hF I.ok.mod.kin J hb hn G.e G.i ?_
  have hl := F.len _ _ _ _ h
  have r2 : Vals [V.ref a, y] [Value.ref a, u] := .cons rfl (.cons ry .nil)
  refine wpAny_call (codeAny_mono (F.run X.A X.stack s H ⟨[.ref a, u], []⟩ [.ref a, u] [.ref a, y] _ E0 hr I.env0 (by
    have := G.b s [.ref a, u] I.kIn (by simpa using hl)
    simpa using this) r2 h) fun r s' hq => ?_)
  cases r with
  | error e => exact passL pins σ H s e s' I hq
  | ok fl =>
    cases fl with
    | ret w =>
      obtain ⟨z, H', I', rz, ⟨b, e⟩, q⟩ := I.after hq
      subst e
      cases (show w = Value.bool b from rz)
      exact ⟨.bl b, H', I', rfl, q⟩
    | next => exact False.elim hq
    | brk => exact False.elim hq
    | cont => exact False.elim hq
theorem tyg_at {th : List Addr} {F H : Hp} {M : MS} {v : V} {y : D} (h : Hs C th F H M) (r : Rep C th F v y) (e : GmArg M y) : TyG C.K C.G H v := by
  rcases e with e | ⟨n, s, ws, rfl⟩
  · exact .inl ⟨_, e, tyx_at h r e⟩
  · obtain ⟨a, dx, fs, rfl, ha, _⟩ := gm_at h r
    exact .inr ⟨a, dx, fs, rfl, ha⟩
theorem th_eq {th t2 : List Addr} {F H F2 H2 : Hp} {M : MS} (h : Hs C th F H M) (h2 : Hs C t2 F2 H2 M) (l : Le th F t2 F2) : t2 = th := by
  refine List.ext_getElem? fun i => ?_
  by_cases hi : i < th.length
  · rw [List.getElem?_eq_getElem hi, l.pre i th[i] (List.getElem?_eq_getElem hi)]
  · have e1 := h.len
    have e2 := h2.len
    rw [List.getElem?_eq_none (by omega), List.getElem?_eq_none (by omega)]
theorem lk_gq : Lk2 C (rGq C.K C.G (upSp C sp_Game_eq)) rdGEq := by
  rintro x y M k v w th F H Q hs rx ry ⟨n, s, ws, rfl, ga, q⟩ kk
  obtain ⟨a, dx, fs, rfl, ha, _⟩ := gm_at hs rx
  refine ⟨a, dx, fs, rfl, ha, tyg_at hs ry ga, ?_⟩
  refine ⟨th, F, M, [.gm n s ws, y], X0, fun z M' => M' = M ∧ z = .bl (gmEq n s ws y), hs, .cons rx (.one ry), ⟨n, s, ws, y, rfl, ga, rfl, rfl⟩, fun z M' u t2 F2 H2 q2 hs2 l2 r2 => ?_, fun _ _ _ _ _ _ _ z => z.elim⟩
  obtain ⟨e1, e2⟩ := q2
  subst e1 e2
  cases r2
  have et := th_eq hs hs2 l2
  subst et
  exact ⟨⟨_, rfl⟩, kk _ _ F2 H2 q hs2 l2 (.bl _)⟩
theorem e_geq (G : Gq X.K c ps f fd) (F : FnOk X.prog X.w X.K X.mg X.base (L2.CX X.prog X.w) k f fd ps (upSp C sp_Game_eq)) (hr : Room k X.A) (ha : PE X a (upE C W da)) (hb : PE X b (upE C W db)) (hK : X.K = C.K := by rfl) (hG : c = C.G := by rfl) : PE X (.Compare a [.Eq] [b] pos) (upE C W (dOp rdGEq da db)) :=
  de_cmp (hG ▸ op_gq G F hr) (hK ▸ lk_gq) ha hb
theorem t_geq (G : Gq X.K c ps f fd) (F : FnOk X.prog X.w X.K X.mg X.base (L2.CX X.prog X.w) k f fd ps (upSp C sp_Game_eq)) (hr : Room k X.A) (ha : PE X a (upE C W da)) (hb : PE X b (upE C W db)) (hK : X.K = C.K := by rfl) (hG : c = C.G := by rfl) : PT X (.Compare a [.Eq] [b] pos) (upT C W (dB (dOp rdGEq da db))) :=
  dt_cmp (hG ▸ op_gq G F hr) (hK ▸ lk_gq) ha hb
end
/-! ### isinstance(x, Game) -/
structure Ic (K : PySem.W.Frag) (C : Addr) : Prop where
  cl : Cls K C
  ha : PySem.W.findIn K (.ref C) "__class__" = some (some (.builtin "object.__class__"))
  hn : PySem.W.specialIn K (.builtin "object.__class__") "__get__" = some (some (.builtin "getset_descriptor.__get__"))
  htk : PySem.W.takesIn K (.builtin "object.__class__") = some true
  hm : PySem.W.mroIn K C (.type "object") = some true
  ty : PySem.W.typeIn K (.ref C) = some (.type "type")
theorem Ic.one {K : PySem.W.Frag} {C : Addr} (c : Ic K C) {t : String} (h : t ∈ tyL) : PySem.W.kitOne K (.type t) (.ref C) = some false := by
  obtain ⟨cd, hc, _⟩ := PySem.W.any_some c.cl.hd
  unfold PySem.W.kitOne PySem.W.kitCls
  rw [if_neg (by simp)]
  dsimp only
  rw [hc, c.ty, if_pos (by simp)]
  exact sub_ty h
theorem Ic.me {K : PySem.W.Frag} {C : Addr} : PySem.W.kitOne K (.ref C) (.ref C) = some true := by
  unfold PySem.W.kitOne
  rw [if_pos (by simp)]
def isGm (y : D) : Bool := match y with
  | .gm _ _ _ => true
  | _ => false
abbrev rdIsiG : RA := fun xs M k => ∃ x, xs = [x, .gcl] ∧ GmArg M x ∧ k (.bl (isGm x))
theorem lk_isiG {C : Cn} (c : Ic C.K C.G) : LkA C (rIsi C.K) rdIsiG := by
  rintro xs M k vs th F H Q hs rx ⟨x, rfl, ga, q⟩ kk
  obtain ⟨v, w, rfl, r, r2⟩ := rx.two'
  cases r2
  rcases ga with e | ⟨n, s, ws, rfl⟩
  · have hb : isGm x = false := by
      cases x with
      | gm a b c => exact absurd e (by simp [tyN, tyL])
      | _ => rfl
    rw [hb] at q
    exact ⟨v, .ref C.G, _, .ref C.G, _, rfl, .own C.G, tyx_at hs r e, c.one e, kk _ _ F H q hs Le.rfl (.bl _)⟩
  · obtain ⟨a, dx, fs, rfl, ha, _⟩ := gm_at hs r
    exact ⟨_, .ref C.G, _, .ref C.G, _, rfl, .own C.G, .base (.ins ha c.cl c.ha c.hn c.htk c.hm), Ic.me, kk _ _ F H q hs Le.rfl (.bl _)⟩
theorem b_isiG {X : Cx} {C : Cn} {W : WX} {a b : Expr} {pos p : Pos} {ea : DA} (c : Ic C.K C.G) (hm : X.mg "isinstance" = none) (ha : PA X [a, b] (upA C W ea)) (hK : X.K = C.K := by rfl) (hg : Gl X "isinstance" := by rfl) (he : starEach [a, b] X.env = (false, eval a X.env) :: starEach [b] X.env := by rfl) (hpl : (backTo pos (starEach [b] X.env)).any (·.1) = false := by rfl) :
    PE X (.Call (.Name "isinstance" p) [a, b] [] pos) (upE C W (dCB rdIsiG ea)) := de_cb (hK ▸ call_isi) (lk_isiG c) hm (by decide +kernel) ha hg (by decide) (by decide) he hpl
end PD

/-! PDt: tuple * n for any n from 0 on. -/
namespace PD
open PySem PySem.Spec PyProof.Rows L2
theorem tuple_mul1 (l : Addr) (items : Array Value) (n : Nat) (dd : Option Addr) (sl : Array (Option Value)) (u : Tok) :
    Meets (Builtin.«tuple.__mul__» ⟨[.ref l, .int 1 u], []⟩) (fun _ R s => s.heap.get? l = some { cls := .type "tuple", dict := dd, data := .seq items n, slots := sl } ∧ R (.ok (.ret (Value.ref l))) s) :=
  .of_wp fun prog w A R s h => by
    obtain ⟨hp, g, d, tk, os⟩ := s
    obtain ⟨hl, h⟩ := h
    have f1 := AutoSeq1.idx_int
    have c0 : (decide ((1 : Int) < -(2 ^ 63)) || decide ((1 : Int) ≥ 2 ^ 63)) = false := by decide
    have c1 : (items.isEmpty || (1 : Int) == 1) = true := by simp
    wp_walk using wpAny_loadPart' hl
    repeat (first
      | (refine wpAny_ite_false (decide_eq_false (by rw [c0]; exact Bool.false_ne_true)) ?_; wp_walk using wpAny_loadPart' hl)
      | (refine wpAny_ite_true (decide_eq_true c1) ?_; wp_walk using wpAny_loadPart' hl))
    exact ⟨_, rfl, h⟩
theorem tuple_mul0 (l : Addr) (items : Array Value) (n : Nat) (dd : Option Addr) (sl : Array (Option Value)) (u : Tok) (c1 : items.isEmpty = false) :
    Meets (Builtin.«tuple.__mul__» ⟨[.ref l, .int 0 u], []⟩) (fun _ R s => s.heap.get? l = some { cls := .type "tuple", dict := dd, data := .seq items n, slots := sl } ∧
      R (.ok (.ret (Value.ref s.heap.objs.size))) { s with heap := s.heap.push { cls := Value.type "tuple", data := Data.seq #[] }, toks := s.toks }) :=
  .of_wp fun prog w A R s h => by
    obtain ⟨hp, g, d, tk, os⟩ := s
    obtain ⟨hl, h⟩ := h
    have f1 := AutoSeq1.idx_int
    have c0 : (decide ((0 : Int) < -(2 ^ 63)) || decide ((0 : Int) ≥ 2 ^ 63)) = false := by decide
    have c2 : (items.isEmpty || (0 : Int) == 1) = false := by rw [c1]; decide
    have c3 : (decide ((0 : Int) ≤ 0) || items.isEmpty) = true := by rw [c1]; decide
    wp_walk using wpAny_loadPart' hl
    repeat (first
      | (refine wpAny_ite_false (decide_eq_false (by rw [c0]; exact Bool.false_ne_true)) ?_; wp_walk using wpAny_loadPart' hl)
      | (refine wpAny_ite_false (decide_eq_false (by rw [c2]; exact Bool.false_ne_true)) ?_; wp_walk using wpAny_loadPart' hl)
      | (refine wpAny_ite_true (decide_eq_true c3) ?_; wp_walk using wpAny_loadPart' hl))
    exact ⟨_, rfl, h⟩
def rRepA (K : PySem.W.Frag) : R2 := fun x y H Q => ∃ l k xs, x = .ref l ∧ y = .int k ∧ SqT K H l xs ∧ xs ≠ [] ∧ 0 ≤ k ∧ k ≤ 1000 ∧ xs.length ≤ 1000 ∧ (k = 1 → Q (.ref l) H) ∧ (k ≠ 1 → ∀ p, H p = none → Q (.ref p) (upd H p (.tup (List.replicate k.toNat xs).flatten)))
section
variable {X : Cx}
theorem op_repA : OpR X (binaryOp .Mult) (rRepA X.K) := by
  intro pins s σ H x y v u Q I rx ry h
  obtain ⟨l, k, xs, rfl, rfl, hT, hne, h1, h2, hz, q1, q2⟩ := h
  by_cases hk : 2 ≤ k
  · exact op_repT pins s σ H _ _ v u Q I rx ry ⟨l, k, xs, rfl, rfl, hT, hne, hk, h2, hz, q2 (by omega)⟩
  cases rx
  obtain ⟨t, rfl⟩ := ry
  obtain ⟨its, r, ⟨⟨cls, dd, data, sl⟩, ho, hc, n, hd⟩, hs⟩ := I.tuple hT
  simp only at hc hd
  subst hc hd
  have hle : its.length = xs.length := r.length.symm
  have hn : its ≠ [] := fun e => hne (by
    rw [e] at hle
    exact List.eq_nil_of_length_eq_zero hle.symm)
  have hi : its.toArray.isEmpty = false := by
    cases its with
    | nil => exact absurd rfl hn
    | cons a b => rfl
  by_cases hk1 : k = 1
  · subst hk1
    refine wpAny_binaryOp_repeat_ref (T := "tuple") (U := "int") (by decide) ⟨_, ho, rfl⟩ (fun s' => typeIs_int s' 1 t) noFill_tuple_mul F.fills_int_mul F.slot_int_rmul repeat_tuple F.slot_int_index.lookup
      (call_meets F.slot_int_rmul (typeIs_int s 1 t) F.entry_int_rmul (F.args_int_rmul_2 _ _) (int_rmul_tuple 1 t l its.toArray n dd sl)
        ⟨ho, rfl, ⟨_, ho, rfl⟩, call_meets F.slot_tuple_mul ⟨_, ho, rfl⟩ F.entry_tuple_mul (F.args_tuple_mul_2 _ _) (tuple_mul1 l its.toArray n dd sl t) ⟨ho, ?_⟩⟩)
    exact ⟨.ref l, H, I, rfl, q1 rfl⟩
  · have hk0 : k = 0 := by omega
    subst hk0
    refine wpAny_binaryOp_repeat_ref (T := "tuple") (U := "int") (by decide) ⟨_, ho, rfl⟩ (fun s' => typeIs_int s' 0 t) noFill_tuple_mul F.fills_int_mul F.slot_int_rmul repeat_tuple F.slot_int_index.lookup
      (call_meets F.slot_int_rmul (typeIs_int s 0 t) F.entry_int_rmul (F.args_int_rmul_2 _ _) (int_rmul_tuple 0 t l its.toArray n dd sl)
        ⟨ho, rfl, ⟨_, ho, rfl⟩, call_meets F.slot_tuple_mul ⟨_, ho, rfl⟩ F.entry_tuple_mul (F.args_tuple_mul_2 _ _) (tuple_mul0 l its.toArray n dd sl t hi) ⟨ho, ?_⟩⟩)
    refine ⟨.ref s.heap.objs.size, _, I.laid (t' := s.toks) (o := .tup []) (fun b ob q => Heap.get?_push_of_some _ q) (Nat.le_refl _) ?_, rfl, q2 (by decide) _ (I.hok.fresh (Nat.le_refl _))⟩
    exact ⟨by rw [sizeLine_eq]; decide, [], .nil, IsTup.new _ _⟩
end
abbrev rdRepA : D → D → MS → (D → Prop) → Prop := fun x y M k => ∃ xs n, x = .tup xs ∧ y = .int n ∧ xs ≠ [] ∧ 0 ≤ n ∧ n ≤ 1000 ∧ xs.length ≤ 1000 ∧ k (.tup (List.replicate n.toNat xs).flatten)
section
variable {X : Cx} {C : Cn} {W : WX} {a b : Expr} {da db : DE} {pos : Pos} {th : List Addr} {F H : Hp} {M : MS}
theorem lk_repA : Lk2 C (rRepA C.K) rdRepA := by
  rintro x y M k v w th F H Q hs rx ry ⟨xs, n, rfl, rfl, hne, h0, h1, hz, q⟩ kk
  cases rx with
  | @tup a vs _ ha r1 =>
    cases ry
    refine ⟨a, n, vs, rfl, rfl, SqT.of (hs.ex _ _ ha), ?_, h0, h1, by rw [RepL.len r1]; exact hz, fun e => ?_, fun e p hp => ?_⟩
    · intro e
      subst e
      cases r1
      exact hne rfl
    · subst e
      refine kk _ _ F H q hs Le.rfl ?_
      have : (List.replicate (Int.toNat 1) xs).flatten = xs := by show (List.replicate 1 xs).flatten = xs; simp
      rw [this]
      exact .tup ha r1
    · have l : Le th F th (upd F p (.tup (List.replicate n.toNat vs).flatten)) := Le.nw (hs.ex.fr hp)
      exact kk _ _ _ _ q (hs.new hp) l (.tup upd_same (RepL.rep (r1.mono l)))
theorem e_repA (ha : PE X a (upE C W da)) (hb : PE X b (upE C W db)) (hK : X.K = C.K := by rfl) : PE X (.BinOp a .Mult b pos) (upE C W (dOp rdRepA da db)) := de_op (hK ▸ op_repA) lk_repA ha hb
end
end PD

/-! PDza: errors as values: made, their fields read, isinstance. -/
namespace L2
open PySem PySem.Spec PyProof.Rows PD
theorem exV_ok {P : Program} {w : World} {H : Hp} {h : Heap} {a C : Addr} {d : Option Addr} {oe : Obj} {vs : Array Value} (e : h.get? a = some oe) (z : Zc (.ref C) d oe) (q : oe.data = .fields vs) : ObjOk P w H h a (exV a C d) :=
  ⟨⟨oe, vs, e, z, q⟩, ⟨oe, e⟩, fun _ _ ⟨o, v, x, y, r⟩ k => ⟨o, v, k o x, y, r⟩⟩
section
variable {X : Cx} {nm qn : Str} {C fI : Addr} {bmB : List Value} {B newId initId : String}
/-- X(), the object -/
theorem pe_new0 {x : Str} {p pos : Pos} (F : ExcBaseFacts B newId initId bmB) (q : PySem.W.excIn X.K C bmB newId = true) (gC : X.mg x = some (.ref C)) (kC : PySem.W.keepIn X.K (.ref C) = true) (hdb : (x == ("__debug__" : Str)) = false) (hg : Gl X x := by rfl) :
    PE X (.Call (.Name x p) [] [] pos) (fun _ H Q => ∀ a, H a = none → Q (.ref a) (upd H a (exV a C none))) := by
  refine ⟨fun pins s σ H Q I h => wpAny_Call_Name_kw (ld_glob I hg gC (PySem.W.callWith_K0 I.kIn kC ?_) hdb)⟩
  show wpAny _ _ (call (.ref C) []) _ _ _
  obtain ⟨_, _, _, _, _, _, _, _, _, _, _, _, _, _, _, _, _, hC, hN, hni, T⟩ := exc_obj I.kIn q
  refine wpAny_call_exc_subT F T hC hN hni (fun h' a hm => ?_) (Nat.zero_le _)
  have hn := I.hok.gone hm.new
  obtain ⟨t, ht, _, _⟩ := hm.there
  exact ⟨.ref a, upd H a (exV a C none), I.laidN hm.keeps hm.new hn (exV_ok ht ⟨rfl, rfl⟩ rfl), rfl, h a hn⟩
/-- x.f, x an exception object of the class c -/
def tXv (K : PySem.W.Frag) (n : Str) (te : TE) : TE := fun σ H Q => te σ H fun x H1 => ∃ (a c d : Addr) (v : V), x = .ref a ∧ XfC K c ∧ PySem.W.findIn K (.ref c) n = some none ∧ H1 a = some (exV a c (some d)) ∧ H1 d = some (.xd [(n, v)]) ∧ Q v H1
theorem pe_xv {e : Expr} {te : TE} {pos : Pos} {n : Str} (he : PE X e te) (hb : attributeBase e n X.env (eval e X.env) = eval e X.env := by rfl) : PE X (.Attribute e n pos) (tXv X.K n te) := by
  refine ⟨fun pins s σ H Q I h => attr_of hb (thn (he.run pins s σ H _ I h) fun u s1 hh => ?_)⟩
  obtain ⟨x, H1, I1, rx, a, c, d, v, rfl, T, hno, ea, ed, q⟩ := hh
  obtain rfl : u = Value.ref a := rx
  have ho : ObjOk X.prog X.w H1 s1.heap a (exV a c (some d)) := I1.hok a _ ea
  obtain ⟨⟨oe, vs, hget, hz, hd⟩, _, _⟩ := ho
  have hx : ObjOk X.prog X.w H1 s1.heap d (.xd [(n, v)]) := I1.hok d _ ed
  obtain ⟨mA, hns, hr⟩ := hx
  obtain ⟨od, hod, hl⟩ := lookIn_ns hns
  have l : List.lookup n [(n, v)] = some v := by simp [List.lookup]
  obtain ⟨w, hw, rw'⟩ := RelO.some_of (v := v) (o := mA n) (by rw [← l]; exact hr n)
  have J : PySem.W.InstAt s1.heap a oe c (some od) := ⟨hget, hz.1, by unfold PySem.W.notCls; rw [hd] <;> rfl, by rw [hz.2]; exact hod⟩
  exact HandSPX.exc_get I1.kIn J T.ga T.gg T.exC (PySem.W.findObj_own T.hdC hno rfl (by rw [hl, hw])) (handed_of rw') ⟨v, H1, I1.tok _, rw', q⟩
/-- isinstance(x, c), x an exception object -/
def rIsX (K : PySem.W.Frag) : List V → Hp → VK → Prop := fun xs H Q => ∃ (a D : Addr) (d : Option Addr) (c : V) (cv : Value) (b : Bool), xs = [.ref a, c] ∧ ClsV c cv ∧ H a = some (exV a D d) ∧ (∀ dd, d = some dd → ∃ fs, H dd = some (.xd fs)) ∧ ExcC K D ∧ PySem.W.kitOne K (.ref D) cv = some b ∧ Q (.bl b) H
theorem call_isX : CallR X (.builtin "isinstance") (rIsX X.K) := by
  intro pins s σ H xs us Q I r h
  obtain ⟨a, D, d, c, cv, b, rfl, k, ea, ed, T, e, q⟩ := h
  obtain ⟨u1, u2, rfl, r1, r2⟩ := vals2 r
  have e2 := k.eq r2
  subst e2
  obtain rfl : u1 = Value.ref a := r1
  have ho : ObjOk X.prog X.w H s.heap a (exV a D d) := I.hok a _ ea
  obtain ⟨⟨oe, vs, hget, hz, hd⟩, _, _⟩ := ho
  have hcl : (PySem.W.clsIn X.K D).isSome = true := by
    obtain ⟨cd, hc, _⟩ := PySem.W.any_some T.hd
    rw [hc]; rfl
  obtain ⟨od, J⟩ : ∃ od, PySem.W.InstAt s.heap a oe D od := by
    cases d with
    | none => exact ⟨none, hget, hz.1, by unfold PySem.W.notCls; rw [hd] <;> rfl, by rw [hz.2]; trivial⟩
    | some dd =>
      obtain ⟨fs, hf⟩ := ed dd rfl
      have hx : ObjOk X.prog X.w H s.heap dd (.xd fs) := I.hok dd _ hf
      obtain ⟨mA, hns, _⟩ := hx
      obtain ⟨od, hod, _⟩ := lookIn_ns hns
      exact ⟨some od, hget, hz.1, by unfold PySem.W.notCls; rw [hd] <;> rfl, by rw [hz.2]; exact hod⟩
  exact PySem.W.kia_one (PySem.W.kitx_exc hcl T.hg T.hk T.hs T.ha T.hn T.ht T.hm) I.kIn J e (fun z => nomatch z) fun tk => ⟨.bl b, H, I.tok tk, rfl, q⟩
/-- nm(e), the object -/
theorem pe_newL_I {a : Expr} {ta : TA} {p pos : Pos} {k : Nat} (T : PySem.ErrI.LowTxt X.K X.mg nm qn C fI) (hr : Room k X.A) (ha : PA X [a] ta) (hdb : (nm == ("__debug__" : Str)) = false) (hg : Gl X nm := by rfl)
    (he : starEach (a :: []) X.env = (false, eval a X.env) :: starEach [] X.env := by rfl) (hpl : (backTo pos (starEach [] X.env)).any (·.1) = false := by rfl) :
    PE X (.Call (.Name nm p) [a] [] pos) (fun σ H Q => ta σ H fun vs H1 => ∃ v, vs = [v] ∧ ∀ e d, H1 e = none → H1 d = none → d ≠ e → Q (.ref e) (upd (upd H1 d (.xd [(("index" : Str), v)])) e (exV e C (some d)))) := by
  refine ⟨fun pins s σ H Q I h => wpAny_Call_Name_kw (ld_glob I hg T.gC ?_ hdb)⟩
  refine PySem.W.callWith_K (h₀ := X.base) I.ok.mod.kin T.kC (thn (ha.run pos pins s σ H _ I h) fun us s1 hh => ?_) he hpl
  obtain ⟨vs, H1, I1, r1, v, ev, q1⟩ := hh
  subst ev
  refine ⟨I1.kIn, ?_⟩
  cases r1 with
  | cons rv rn =>
    rename_i v' us'
    cases rn
    show wpAny _ _ (call (.ref C) [v']) _ _ _
    have hlim := I1.nolimit
    obtain ⟨hp, g, dr, tk, os⟩ := s1
    refine wpAny_call (PySem.ErrI.low_made T I1.kIn hlim (by have := hr.dp; omega) fun h' tk' e d M => ?_)
    obtain ⟨oe, fv, hoe, hc, hd, hdat, h1⟩ := M.obj
    have hns := M.ns
    obtain ⟨G', g1, g2⟩ := restrict h' fun b => decide (b ≠ e)
    have gk : ∀ b, b ≠ e → G'.get? b = h'.get? b := fun b hb => g1 b (decide_eq_true hb)
    have ge : G'.get? e = none := g2 e (by simp)
    have gs : ∀ b o, G'.get? b = some o → h'.get? b = some o := fun b o z => by
      by_cases hb : b = e
      · rw [hb, ge] at z; cases z
      · rw [← gk b hb]; exact z
    have J : Inv X pins σ (upd H1 d (.xd [(("index" : Str), v)])) ⟨G', g, dr, tk', os⟩ := I1.laid (t' := tk') (fun b o q => (gk b (Nat.ne_of_lt (Nat.lt_of_lt_of_le (Heap.lt_size q) M.new))).trans (M.keep b o q)) M.dbig
      (show ObjOk X.prog X.w _ G' d (.xd [(("index" : Str), v)]) from ⟨_, hns.at (fun o q => (gk d M.dne).trans q), fun f => relO_low_I rv f⟩)
    have he1 : H1 e = none := I1.hok.fresh M.new
    have he2 : (upd H1 d (.xd [(("index" : Str), v)])) e = none := by rw [upd_ne (Ne.symm M.dne)]; exact he1
    have J2 := J.laidN (t' := tk') (h' := h') (o := exV e C (some d)) gs ge he2 (exV_ok hoe ⟨hc, hd⟩ hdat)
    exact ⟨.ref e, _, J2, rfl, q1 e d he1 (I1.hok.fresh M.dbig) M.dne⟩
/-- nm(e), the object -/
theorem pe_newL_W {a : Expr} {ta : TA} {p pos : Pos} {k : Nat} (T : PySem.ErrW.LowTxt X.K X.mg nm qn C fI) (hr : Room k X.A) (ha : PA X [a] ta) (hdb : (nm == ("__debug__" : Str)) = false) (hg : Gl X nm := by rfl)
    (he : starEach (a :: []) X.env = (false, eval a X.env) :: starEach [] X.env := by rfl) (hpl : (backTo pos (starEach [] X.env)).any (·.1) = false := by rfl) :
    PE X (.Call (.Name nm p) [a] [] pos) (fun σ H Q => ta σ H fun vs H1 => ∃ v, vs = [v] ∧ ∀ e d, H1 e = none → H1 d = none → d ≠ e → Q (.ref e) (upd (upd H1 d (.xd [(("word" : Str), v)])) e (exV e C (some d)))) := by
  refine ⟨fun pins s σ H Q I h => wpAny_Call_Name_kw (ld_glob I hg T.gC ?_ hdb)⟩
  refine PySem.W.callWith_K (h₀ := X.base) I.ok.mod.kin T.kC (thn (ha.run pos pins s σ H _ I h) fun us s1 hh => ?_) he hpl
  obtain ⟨vs, H1, I1, r1, v, ev, q1⟩ := hh
  subst ev
  refine ⟨I1.kIn, ?_⟩
  cases r1 with
  | cons rv rn =>
    rename_i v' us'
    cases rn
    show wpAny _ _ (call (.ref C) [v']) _ _ _
    have hlim := I1.nolimit
    obtain ⟨hp, g, dr, tk, os⟩ := s1
    refine wpAny_call (PySem.ErrW.low_made T I1.kIn hlim (by have := hr.dp; omega) fun h' tk' e d M => ?_)
    obtain ⟨oe, fv, hoe, hc, hd, hdat, h1⟩ := M.obj
    have hns := M.ns
    obtain ⟨G', g1, g2⟩ := restrict h' fun b => decide (b ≠ e)
    have gk : ∀ b, b ≠ e → G'.get? b = h'.get? b := fun b hb => g1 b (decide_eq_true hb)
    have ge : G'.get? e = none := g2 e (by simp)
    have gs : ∀ b o, G'.get? b = some o → h'.get? b = some o := fun b o z => by
      by_cases hb : b = e
      · rw [hb, ge] at z; cases z
      · rw [← gk b hb]; exact z
    have J : Inv X pins σ (upd H1 d (.xd [(("word" : Str), v)])) ⟨G', g, dr, tk', os⟩ := I1.laid (t' := tk') (fun b o q => (gk b (Nat.ne_of_lt (Nat.lt_of_lt_of_le (Heap.lt_size q) M.new))).trans (M.keep b o q)) M.dbig
      (show ObjOk X.prog X.w _ G' d (.xd [(("word" : Str), v)]) from ⟨_, hns.at (fun o q => (gk d M.dne).trans q), fun f => relO_low_W rv f⟩)
    have he1 : H1 e = none := I1.hok.fresh M.new
    have he2 : (upd H1 d (.xd [(("word" : Str), v)])) e = none := by rw [upd_ne (Ne.symm M.dne)]; exact he1
    have J2 := J.laidN (t' := tk') (h' := h') (o := exV e C (some d)) gs ge he2 (exV_ok hoe ⟨hc, hd⟩ hdat)
    exact ⟨.ref e, _, J2, rfl, q1 e d he1 (I1.hok.fresh M.dbig) M.dne⟩
end
end L2
namespace PD
open PySem PySem.Spec PyProof.Rows L2
abbrev exL : List Str := ["BadChildren", "BadParts", "BadSteps", "BadSweets", "BadRounds", "BadMost", "BadRows", "BadSeen", "TooMany", "BadChild", "BadGift", "BadText"]
abbrev exL2 : List Str := ["BadChildren", "BadParts", "BadSteps", "BadSweets", "BadRounds", "BadMost", "BadRows", "BadSeen", "TooMany", "BadChild", "BadGift", "BadText", "SweetError"]
def dNew0 (c : Str) : DE := fun _ M _ k => k (.exn c) M
def dNewE (c f : Str) (da : DE) : DE := fun g M X k => da g M X fun y M1 => k (.exc c f y) M1
def dXGet (L : List Str) (f : Str) (da : DE) : DE := fun g M X k => da g M X fun x M1 => ∃ c y, x = .exc c f y ∧ c ∈ L ∧ k y M1
def xCls : D → Option Str
  | .exc c _ _ => some c
  | .exn c => some c
  | _ => none
abbrev rdIsX (L L' : List Str) : RA := fun xs _ k => ∃ x c e, xs = [x, .ecl c] ∧ xCls x = some e ∧ e ∈ L ∧ c ∈ L' ∧ k (.bl (exSub e c))
abbrev rdIsV (L : List Str) : RA := fun xs _ k => ∃ x e, xs = [x, .ty "ValueError"] ∧ xCls x = some e ∧ e ∈ L ∧ k (.bl true)
theorem kit_sub {K : PySem.W.Frag} {S c : Addr} {b : Bool} (h2 : PySem.W.isClsIn K c = true) (h3 : PySem.W.typeIn K (.ref c) = some (.type "type")) (h4 : PySem.W.subIn K (.ref S) (.ref c) = some b) (h5 : S = c → b = true) : PySem.W.kitOne K (.ref S) (.ref c) = some b := by
  have h2' : (PySem.W.clsIn K c).isSome = true := h2
  unfold PySem.W.kitOne
  by_cases h : S = c
  · rw [if_pos (by rw [h]; exact beq_self_eq_true _), h5 h]
  · rw [if_neg (fun z => h (Value.ref.inj (beq_iff_eq.mp z)))]
    unfold PySem.W.kitCls
    dsimp only
    rw [h2', h3, if_pos (by decide)]
    exact h4
theorem kit_val {K : PySem.W.Frag} {S : Addr} (h : PySem.W.subIn K (.ref S) (.type "ValueError") = some true) : PySem.W.kitOne K (.ref S) (.type "ValueError") = some true := by
  unfold PySem.W.kitOne
  rw [if_neg (by simp)]
  unfold PySem.W.kitCls
  dsimp only
  rw [if_pos (by decide +kernel)]
  exact h
section
variable {C : Cn}
theorem exc_at {th : List Addr} {F H : Hp} {v : V} {x : D} {e : Str} (ex : Ex F H) (r : Rep C th F v x) (h : xCls x = some e) : ∃ (a : Addr) (d : Option Addr), v = .ref a ∧ H a = some (exV a (C.cl e) d) ∧ ∀ dd, d = some dd → ∃ fs, H dd = some (.xd fs) := by
  cases r with
  | exc h1 h2 _ =>
    cases h
    exact ⟨_, _, rfl, ex _ _ h1, fun dd e => by cases e; exact ⟨_, ex _ _ h2⟩⟩
  | exn h1 =>
    cases h
    exact ⟨_, _, rfl, ex _ _ h1, fun dd e => nomatch e⟩
  | _ => cases h
theorem lk_isX {L L' : List Str} (T : ∀ e ∈ L, ExcC C.K (C.cl e)) (T2 : ∀ e ∈ L, ∀ c ∈ L', PySem.W.kitOne C.K (.ref (C.cl e)) (.ref (C.cl c)) = some (exSub e c)) : LkA C (rIsX C.K) (rdIsX L L') := by
  rintro xs M k vs th F H Q hs rx ⟨x, c, e, rfl, hx, he, hc, q⟩ kk
  obtain ⟨v, w, rfl, r, r2⟩ := rx.two'
  cases r2
  obtain ⟨a, d, rfl, h1, h2⟩ := exc_at hs.ex r hx
  exact ⟨a, _, d, _, _, _, rfl, .own _, h1, h2, T e he, T2 e he c hc, kk _ _ F H q hs Le.rfl (.bl _)⟩
theorem lk_isV {L : List Str} (T : ∀ e ∈ L, ExcC C.K (C.cl e)) (T2 : ∀ e ∈ L, PySem.W.kitOne C.K (.ref (C.cl e)) (.type "ValueError") = some true) : LkA C (rIsX C.K) (rdIsV L) := by
  rintro xs M k vs th F H Q hs rx ⟨x, e, rfl, hx, he, q⟩ kk
  obtain ⟨v, w, rfl, r, r2⟩ := rx.two'
  cases r2
  obtain ⟨a, d, rfl, h1, h2⟩ := exc_at hs.ex r hx
  exact ⟨a, _, d, _, _, _, rfl, .ty _, h1, h2, T e he, T2 e he, kk _ _ F H q hs Le.rfl (.bl _)⟩
end
section
variable {X : Cx} {C : Cn} {W : WX} {a b : Expr} {da : DE} {ea : DA} {nm qn : Str} {p pos : Pos} {k : Nat} {fI : Addr}
theorem de_ecl {x : Str} (hm : X.mg x = some (.ref (C.cl x))) (hg : Gl X x := by rfl) (hd : (x == ("__debug__" : Str)) = false := by decide) : PE X (.Name x pos) (upE C W (dC (.ecl x))) :=
  de_c (pe_glob hg hm (v := .ref (C.cl x)) rfl hd) fun _ _ => .ecl x
theorem de_new0 (E : Er0 X.K X.mg nm (C.cl nm)) (hdb : (nm == ("__debug__" : Str)) = false := by decide) (hg : Gl X nm := by rfl) : PE X (.Call (.Name nm p) [] [] pos) (upE C W (dNew0 nm)) :=
  pe_imp (pe_new0 F.excBase_ValueError E.q E.g E.k hdb hg) fun σ H Q h => by
    obtain ⟨th, F, g, M, X', P, p, h⟩ := h
    exact fun a ha => p.new ha h fun l => .exn upd_same
theorem de_xget {L : List Str} {f : Str} (T : ∀ c ∈ L, XfC X.K (C.cl c) ∧ PySem.W.findIn X.K (.ref (C.cl c)) f = some none) (ha : PE X a (upE C W da)) (hb : attributeBase a f X.env (eval a X.env) = eval a X.env := by rfl) : PE X (.Attribute a f pos) (upE C W (dXGet L f da)) :=
  pe_imp (pe_xv ha hb) fun σ H Q h => by
    obtain ⟨th, F, g, M, X', P, p, h⟩ := h
    refine p.bind h fun x v t1 F1 H1 M1 h1 rx l1 p1 => ?_
    obtain ⟨c, y, rfl, hc, q⟩ := h1
    cases rx with
    | exc e1 e2 r => exact ⟨_, _, _, _, rfl, (T c hc).1, (T c hc).2, p1.at_.hs.ex _ _ e1, p1.at_.hs.ex _ _ e2, p1.fin q r⟩
theorem b_isX {L L' : List Str} (T : ∀ e ∈ L, ExcC C.K (C.cl e)) (T2 : ∀ e ∈ L, ∀ c ∈ L', PySem.W.kitOne C.K (.ref (C.cl e)) (.ref (C.cl c)) = some (exSub e c)) (hm : X.mg "isinstance" = none) (ha : PA X [a, b] (upA C W ea)) (hK : X.K = C.K := by rfl) (hg : Gl X "isinstance" := by rfl)
    (he : starEach [a, b] X.env = (false, eval a X.env) :: starEach [b] X.env := by rfl) (hpl : (backTo pos (starEach [b] X.env)).any (·.1) = false := by rfl) : PE X (.Call (.Name "isinstance" p) [a, b] [] pos) (upE C W (dCB (rdIsX L L') ea)) :=
  de_cb (hK ▸ call_isX) (lk_isX T T2) hm (by decide +kernel) ha hg (by decide) (by decide) he hpl
theorem b_isV {L : List Str} (T : ∀ e ∈ L, ExcC C.K (C.cl e)) (T2 : ∀ e ∈ L, PySem.W.kitOne C.K (.ref (C.cl e)) (.type "ValueError") = some true) (hm : X.mg "isinstance" = none) (ha : PA X [a, b] (upA C W ea)) (hK : X.K = C.K := by rfl) (hg : Gl X "isinstance" := by rfl)
    (he : starEach [a, b] X.env = (false, eval a X.env) :: starEach [b] X.env := by rfl) (hpl : (backTo pos (starEach [b] X.env)).any (·.1) = false := by rfl) : PE X (.Call (.Name "isinstance" p) [a, b] [] pos) (upE C W (dCB (rdIsV L) ea)) :=
  de_cb (hK ▸ call_isX) (lk_isV T T2) hm (by decide +kernel) ha hg (by decide) (by decide) he hpl
theorem de_newI (hr : Room k X.A) (T : PySem.ErrI.LowTxt X.K X.mg nm qn (C.cl nm) fI) (ha : PE X a (upE C W da)) (hdb : (nm == ("__debug__" : Str)) = false := by decide) (hg : Gl X nm := by rfl)
    (he : starEach (a :: []) X.env = (false, eval a X.env) :: starEach [] X.env := by rfl) (hpl : (backTo pos (starEach [] X.env)).any (·.1) = false := by rfl) : PE X (.Call (.Name nm p) [a] [] pos) (upE C W (dNewE nm "index" da)) :=
  pe_imp (pe_newL_I T hr (da_cons ha da_nil he) hdb hg he hpl) fun σ H Q h => by
    obtain ⟨th, F, g, M, X', P, p, h⟩ := h
    refine p.bind (rel1 := rL C) (f := fun ys M' => ∃ y, ys = [y] ∧ P (.exc nm "index" y) M') ?_ fun ys vs t1 F1 H1 M1 h1 rs l1 p1 => ?_
    · show da g M X' fun x M1 => ∃ y, [x] = [y] ∧ P (.exc nm "index" y) M1
      have e : (fun (x : D) (M1 : MS) => ∃ y, [x] = [y] ∧ P (.exc nm "index" y) M1) = fun x M1 => P (.exc nm "index" x) M1 := by
        funext x M1
        exact propext ⟨fun ⟨y, e, q⟩ => by injection e with e _; subst e; exact q, fun q => ⟨x, rfl, q⟩⟩
      rw [e]
      exact h
    · obtain ⟨y, rfl, q⟩ := h1
      obtain ⟨v, rfl, rv⟩ := RepL.one' rs
      refine ⟨v, rfl, fun e d he hd hne => ?_⟩
      have he2 : (upd H1 d (.xd [(("index" : Str), v)])) e = none := by rw [upd_ne (Ne.symm hne)]; exact he
      have hs1 := p1.at_.hs.new (o := .xd [(("index" : Str), v)]) hd
      have l2 : Le t1 F1 t1 (upd F1 d (.xd [(("index" : Str), v)])) := Le.nw (p1.at_.hs.ex.fr hd)
      have l3 : Le t1 (upd F1 d (.xd [(("index" : Str), v)])) t1 (upd (upd F1 d (.xd [(("index" : Str), v)])) e (exV e (C.cl nm) (some d))) := Le.nw (hs1.ex.fr he2)
      exact p1.ok _ _ _ t1 _ _ q (hs1.new he2) (l2.tr l3) (.exc upd_same (by rw [upd_ne hne]; exact upd_same) (rv.mono (l2.tr l3)))
theorem de_newW (hr : Room k X.A) (T : PySem.ErrW.LowTxt X.K X.mg nm qn (C.cl nm) fI) (ha : PE X a (upE C W da)) (hdb : (nm == ("__debug__" : Str)) = false := by decide) (hg : Gl X nm := by rfl)
    (he : starEach (a :: []) X.env = (false, eval a X.env) :: starEach [] X.env := by rfl) (hpl : (backTo pos (starEach [] X.env)).any (·.1) = false := by rfl) : PE X (.Call (.Name nm p) [a] [] pos) (upE C W (dNewE nm "word" da)) :=
  pe_imp (pe_newL_W T hr (da_cons ha da_nil he) hdb hg he hpl) fun σ H Q h => by
    obtain ⟨th, F, g, M, X', P, p, h⟩ := h
    refine p.bind (rel1 := rL C) (f := fun ys M' => ∃ y, ys = [y] ∧ P (.exc nm "word" y) M') ?_ fun ys vs t1 F1 H1 M1 h1 rs l1 p1 => ?_
    · show da g M X' fun x M1 => ∃ y, [x] = [y] ∧ P (.exc nm "word" y) M1
      have e : (fun (x : D) (M1 : MS) => ∃ y, [x] = [y] ∧ P (.exc nm "word" y) M1) = fun x M1 => P (.exc nm "word" x) M1 := by
        funext x M1
        exact propext ⟨fun ⟨y, e, q⟩ => by injection e with e _; subst e; exact q, fun q => ⟨x, rfl, q⟩⟩
      rw [e]
      exact h
    · obtain ⟨y, rfl, q⟩ := h1
      obtain ⟨v, rfl, rv⟩ := RepL.one' rs
      refine ⟨v, rfl, fun e d he hd hne => ?_⟩
      have he2 : (upd H1 d (.xd [(("word" : Str), v)])) e = none := by rw [upd_ne (Ne.symm hne)]; exact he
      have hs1 := p1.at_.hs.new (o := .xd [(("word" : Str), v)]) hd
      have l2 : Le t1 F1 t1 (upd F1 d (.xd [(("word" : Str), v)])) := Le.nw (p1.at_.hs.ex.fr hd)
      have l3 : Le t1 (upd F1 d (.xd [(("word" : Str), v)])) t1 (upd (upd F1 d (.xd [(("word" : Str), v)])) e (exV e (C.cl nm) (some d))) := Le.nw (hs1.ex.fr he2)
      exact p1.ok _ _ _ t1 _ _ q (hs1.new he2) (l2.tr l3) (.exc upd_same (by rw [upd_ne hne]; exact upd_same) (rv.mono (l2.tr l3)))
end
end PD

/-! SwA: the source of numbers, is_integer, is_from, Game: over data. -/
namespace Sw
open PySem PySem.Spec PyProof.Rows L2 PD
/-- what a comprehension does behind its list -/
def LcB (g : En) (vs : List Nat) (dg : D → En → (En → Prop) → Prop) (dt : DT) (de : DE) (X : EK) (k : D → MS → Prop) (ys : List D) (M' : MS) : Prop := (∀ c ∈ M', ClnC c) ∧ ys.length < sizeLine ∧ ∃ Inv : Nat → List D → Prop, Inv 0 [] ∧
  (∀ (i : Nat) (y : D) (acc : List D), ys[i]? = some y → Inv i acc → dg y (wipeD g vs) fun g2 => dt g2 (M' ++ [.lst acc]) X0 fun b M2 => M2 = M' ++ [.lst acc] ∧
    if b = true then de g2 (M' ++ [.lst acc]) X0 fun z M3 => M3 = M' ++ [.lst acc] ∧ Cln z ∧ Inv (i + 1) (acc ++ [z]) else Inv (i + 1) acc) ∧
  ∀ acc, Inv ys.length acc → k (.lst acc) M'
theorem dLc_eq (di : DIt) (dg : D → En → (En → Prop) → Prop) (dt : DT) (de : DE) (vs : List Nat) (g : En) (M : MS) (X : EK) (k : D → MS → Prop) : dLc di dg dt de vs g M X k = di g M X fun ys M' => LcB g vs dg dt de X k ys M' := rfl
def ForB (g : En) (dg : D → En → (En → Prop) → Prop) (b : DS) (N : DN) (ys : List D) (M' : MS) : Prop := ∃ Inv : Nat → En → MS → Prop, Inv 0 g M' ∧
  (∀ (i : Nat) (y : D) (g1 : En) (M1 : MS), ys[i]? = some y → Inv i g1 M1 → dg y g1 fun g2 => b g2 M1 { N with nx := Inv (i + 1), ct := Inv (i + 1), bk := N.nx }) ∧ ∀ g1 M1, Inv ys.length g1 M1 → N.nx g1 M1
theorem sFor_eq (di : DIt) (dg : D → En → (En → Prop) → Prop) (b : DS) (g : En) (M : MS) (N : DN) : sFor di dg b g M N = di g M (fun e M' => N.ex e g M') fun ys M' => ForB g dg b N ys M' := rfl
/-- a comprehension without condition whose element is a function of the item -/
theorem lc_map {g : En} {vs : List Nat} {dg : D → En → (En → Prop) → Prop} {de : DE} {X : EK} {k : D → MS → Prop} {ys : List D} {M : MS} (f : D → D) (hM : ∀ c ∈ M, ClnC c) (hl : ys.length < sizeLine) (hf : ∀ y ∈ ys, Cln (f y))
    (he : ∀ y ∈ ys, ∀ (acc : List D), (∀ d ∈ acc, Cln d) → ∀ (P : D → MS → Prop), P (f y) (M ++ [.lst acc]) → dg y (wipeD g vs) fun g2 => de g2 (M ++ [.lst acc]) X0 P) (hk : k (.lst (ys.map f)) M) : LcB g vs dg dYes de X k ys M := by
  refine ⟨hM, hl, fun i acc => acc = (ys.take i).map f, by simp, ?_, ?_⟩
  · rintro i y acc e rfl
    have hy : y ∈ ys := List.mem_of_getElem? e
    have h := he y hy ((ys.take i).map f) (fun d hd => by obtain ⟨y', hy', rfl⟩ := List.mem_map.mp hd; exact hf y' (List.mem_of_mem_take hy')) (fun z M3 => M3 = M ++ [.lst ((ys.take i).map f)] ∧ Cln z ∧ (ys.take i).map f ++ [z] = (ys.take (i + 1)).map f) ⟨rfl, hf y hy, by rw [List.take_add_one, e, List.map_append]; rfl⟩
    unfold dYes
    simpa using h
  · rintro acc rfl
    rw [List.take_length]
    exact hk
theorem lc_filter {g : En} {vs : List Nat} {dg : D → En → (En → Prop) → Prop} {dt : DT} {de : DE} {X : EK} {k : D → MS → Prop} {ys : List D} {M : MS} (p : D → Bool) (f : D → D) (hM : ∀ c ∈ M, ClnC c) (hl : ys.length < sizeLine) (hf : ∀ y ∈ ys, Cln (f y))
    (he : ∀ y ∈ ys, ∀ (acc : List D), (∀ d ∈ acc, Cln d) → ∀ (P : D → MS → Prop) (R : Prop), (p y = true → P (f y) (M ++ [.lst acc])) → (p y = false → R) → dg y (wipeD g vs) fun g2 => dt g2 (M ++ [.lst acc]) X0 fun b M2 => M2 = M ++ [.lst acc] ∧ if b = true then de g2 (M ++ [.lst acc]) X0 P else R)
    (hk : k (.lst ((ys.filter p).map f)) M) : LcB g vs dg dt de X k ys M := by
  refine ⟨hM, hl, fun i acc => acc = ((ys.take i).filter p).map f, by simp, ?_, ?_⟩
  · rintro i y acc e rfl
    have hy : y ∈ ys := List.mem_of_getElem? e
    refine he y hy _ (fun d hd => by obtain ⟨y', hy', rfl⟩ := List.mem_map.mp hd; exact hf y' (List.mem_of_mem_take (List.mem_filter.mp hy').1)) _ _ (fun hp => ⟨rfl, hf y hy, ?_⟩) fun hp => ?_
    · show _ = ((ys.take (i + 1)).filter p).map f
      rw [List.take_add_one, e, List.filter_append, List.map_append]; simp [hp]
    · show _ = ((ys.take (i + 1)).filter p).map f
      rw [List.take_add_one, e, List.filter_append, List.map_append]; simp [hp]
  · rintro acc rfl
    rw [List.take_length]
    exact hk
/-- a comprehension without condition whose elements are of a kind -/
theorem lc_all {g : En} {vs : List Nat} {dg : D → En → (En → Prop) → Prop} {de : DE} {X : EK} {k : D → MS → Prop} {ys : List D} {M : MS} (R : D → D → Prop) (hM : ∀ c ∈ M, ClnC c) (hl : ys.length < sizeLine) (hf : ∀ y z, R y z → Cln z)
    (he : ∀ y ∈ ys, ∀ (acc : List D), (∀ d ∈ acc, Cln d) → ∀ (P : D → MS → Prop), (∀ z, R y z → P z (M ++ [.lst acc])) → dg y (wipeD g vs) fun g2 => de g2 (M ++ [.lst acc]) X0 P) (hk : ∀ zs : List D, zs.length = ys.length → (∀ (i : Nat) (y z : D), ys[i]? = some y → zs[i]? = some z → R y z) → k (.lst zs) M) : LcB g vs dg dYes de X k ys M := by
  refine ⟨hM, hl, fun i acc => acc.length = min i ys.length ∧ ∀ (j : Nat) (y z : D), ys[j]? = some y → acc[j]? = some z → R y z, ⟨by simp, fun j y z _ h => by simp at h⟩, ?_, ?_⟩
  · rintro i y acc e ⟨h1, h2⟩
    have hy : y ∈ ys := List.mem_of_getElem? e
    have hi : i < ys.length := (List.getElem?_eq_some_iff.mp e).1
    have h := he y hy acc (fun d hd => by obtain ⟨j, hj⟩ := List.mem_iff_getElem?.mp hd; have hj2 := (List.getElem?_eq_some_iff.mp hj).1; exact hf _ _ (h2 j _ d (List.getElem?_eq_getElem (by omega)) hj)) (fun z M3 => M3 = M ++ [.lst acc] ∧ Cln z ∧ (acc ++ [z]).length = min (i + 1) ys.length ∧ ∀ j y z', ys[j]? = some y → (acc ++ [z])[j]? = some z' → R y z') (fun z hz => ⟨rfl, hf _ _ hz, by rw [List.length_append, h1, List.length_singleton]; omega, by
      intro j y' z' e1 e2
      by_cases hj : j < acc.length
      · rw [List.getElem?_append_left hj] at e2
        exact h2 j y' z' e1 e2
      · have hj2 := (List.getElem?_eq_some_iff.mp e2).1
        rw [List.length_append, List.length_singleton] at hj2
        have hj3 : j = acc.length := by omega
        have hj4 : j = i := by omega
        subst hj4
        rw [e] at e1; cases e1
        rw [hj3, List.getElem?_append_right (Nat.le_refl _)] at e2
        simp at e2
        exact e2 ▸ hz⟩)
    unfold dYes
    simpa using h
  · rintro acc ⟨h1, h2⟩
    exact hk acc (by omega) h2
theorem for_inv {g : En} {dg : D → En → (En → Prop) → Prop} {b : DS} {N : DN} {ys : List D} {M : MS} (Inv : Nat → En → MS → Prop) (h0 : Inv 0 g M)
    (h1 : ∀ (i : Nat) (y : D) (g1 : En) (M1 : MS), ys[i]? = some y → Inv i g1 M1 → dg y g1 fun g2 => b g2 M1 { N with nx := Inv (i + 1), ct := Inv (i + 1), bk := N.nx }) (h2 : ∀ g1 M1, Inv ys.length g1 M1 → N.nx g1 M1) : ForB g dg b N ys M := ⟨Inv, h0, h1, h2⟩
def WhB (c : DT) (b : DS) (g : En) (M : MS) (N : DN) : Prop := sWhile c b g M N
theorem eqD_int (a b : Int) : eqD (.int a) (.int b) = decide (a = b) := by
  show (a == b) = _
  by_cases h : a = b
  · rw [decide_eq_true h]; exact beq_iff_eq.mpr h
  · rw [decide_eq_false h]; exact beq_false_of_ne h
theorem eqD_bl (a b : Bool) : eqD (.bl a) (.bl b) = decide (a = b) := by cases a <;> cases b <;> rfl
theorem eqOk_int (M : MS) (i : Int) : EqOk M (.int i) = True := eq_true ⟨.int _ _, fun j e => nomatch e⟩
theorem eqOk_bl (M : MS) (i : Bool) : EqOk M (.bl i) = True := eq_true ⟨.bl _ _, fun j e => nomatch e⟩
theorem eqOk_non (M : MS) : EqOk M .non = True := eq_true ⟨.non _, fun j e => nomatch e⟩
theorem cellD_int (M : MS) (i : Int) : cellD M (.int i) = .int i := rfl
theorem cellD_bl (M : MS) (i : Bool) : cellD M (.bl i) = .bl i := rfl
theorem cellD_tup (M : MS) (i : List D) : cellD M (.tup i) = .tup i := rfl
theorem cellD_lst (M : MS) (i : List D) : cellD M (.lst i) = .lst i := rfl
theorem seqOf_lst (M : MS) (xs : List D) : seqOf (.lst xs) M = some xs := rfl
theorem seqOf_tup (M : MS) (xs : List D) : seqOf (.tup xs) M = some xs := rfl
theorem lstOf_lst (M : MS) (xs : List D) : lstOf (.lst xs) M = some xs := rfl
theorem seqOf_ptr {M : MS} {j : Nat} {xs : List D} (h : M[j]? = some (.lst xs)) : seqOf (.ptr j) M = some xs := by simp [seqOf, h]
theorem lstOf_ptr {M : MS} {j : Nat} {xs : List D} (h : M[j]? = some (.lst xs)) : lstOf (.ptr j) M = some xs := by simp [lstOf, h]
theorem sizeLine_val : sizeLine = 16777216 := by decide
theorem atD_0 (x : D) (xs : List D) : atD (x :: xs) 0 = some x := by
  have : ixN (x :: xs).length 0 = some 0 := by
    unfold ixN
    have : (0 : Int) < (x :: xs).length := by simp
    rw [if_pos (by decide), if_pos (by simpa using this)]
    rfl
  unfold atD
  rw [this]
  rfl
theorem atD_nat {xs : List D} {i : Nat} : atD xs (i : Int) = xs[i]? := by
  unfold atD ixN
  by_cases h : i < xs.length
  · rw [if_pos (by omega), if_pos (by omega)]
    rfl
  · rw [if_pos (by omega), if_neg (by omega), List.getElem?_eq_none (by omega)]
    rfl
theorem atD_in {xs : List D} {i : Int} (h0 : 0 ≤ i) : atD xs i = xs[i.toNat]? := by
  have h := atD_nat (xs := xs) (i := i.toNat)
  rwa [Int.toNat_of_nonneg h0] at h
theorem atD_1 (x y : D) (xs : List D) : atD (x :: y :: xs) 1 = some y := by
  have h := atD_nat (xs := x :: y :: xs) (i := 1)
  simpa using h
theorem atD_2 (x y z : D) (xs : List D) : atD (x :: y :: z :: xs) 2 = some z := by
  have h := atD_nat (xs := x :: y :: z :: xs) (i := 2)
  simpa using h
theorem get_app {M L : MS} {j : Nat} {c : Cell} (h : M[j]? = some c) : (M ++ L)[j]? = some c := by
  rw [List.getElem?_append_left (List.getElem?_eq_some_iff.mp h).1]
  exact h
theorem iL_cons (a : Int) (l : List Int) : iL (a :: l) = .int a :: iL l := rfl
theorem iL_nil : iL [] = [] := rfl
theorem iL_len (l : List Int) : (iL l).length = l.length := by unfold iL; rw [List.length_map]
theorem iL_get (l : List Int) (i : Nat) : (iL l)[i]? = l[i]?.map D.int := by unfold iL; rw [List.getElem?_map]
theorem iL_inj {a b : List Int} (h : iL a = iL b) : a = b := by
  induction a generalizing b with
  | nil => cases b with
    | nil => rfl
    | cons y b => cases h
  | cons x a ih => cases b with
    | nil => cases h
    | cons y b =>
      injection h with h1 h2
      injection h1 with h1
      rw [h1, ih h2]
theorem iL_cln {l : List Int} : ∀ d ∈ iL l, Cln d := fun d h => by
  obtain ⟨i, _, rfl⟩ := List.mem_map.mp h
  exact .int i
theorem cln_iL (l : List Int) : Cln (.lst (iL l)) := .lst iL_cln
theorem cln_tL (l : List Int) : Cln (.tup (iL l)) := .tup iL_cln
theorem clnC_app {M : MS} {c : Cell} (h : ∀ c ∈ M, ClnC c) (hc : ClnC c) : ∀ d ∈ M ++ [c], ClnC d := fun d hd => by
  rcases List.mem_append.mp hd with q | q
  · exact h d q
  · rw [List.mem_singleton] at q; subst q; exact hc
theorem clnC_set {M : MS} {j : Nat} {c : Cell} (h : ∀ c ∈ M, ClnC c) (hc : ClnC c) : ∀ d ∈ M.set j c, ClnC d := fun d hd => by
  rcases List.mem_or_eq_of_mem_set hd with q | q
  · exact h d q
  · subst q; exact hc
theorem set_same {M : MS} {j : Nat} {c : Cell} (h : M[j]? = some c) : M.set j c = M := by
  refine List.ext_getElem? fun k => ?_
  by_cases e : j = k
  · subst e; rw [List.getElem?_set_self (List.getElem?_eq_some_iff.mp h).1, h]
  · rw [List.getElem?_set_ne e]
theorem set_get {M : MS} {j : Nat} {c d : Cell} (h : M[j]? = some c) : (M.set j d)[j]? = some d := List.getElem?_set_self (List.getElem?_eq_some_iff.mp h).1
theorem filt_iL (p : Int → Bool) (l : List Int) (q : D → Bool) (h : ∀ i, q (.int i) = p i) : (iL l).filter q = iL (l.filter p) := by
  induction l with
  | nil => rfl
  | cons a l ih =>
    rw [iL_cons, List.filter_cons, List.filter_cons, h, ih]
    cases p a <;> rfl
theorem wipeD_nil (g : En) : wipeD g [] = g := rfl
theorem wipeD_cons (g : En) (v : Nat) (vs : List Nat) : wipeD g (v :: vs) = (wipeD g vs).set v none := rfl

theorem seqOf_set {M : MS} {j : Nat} (h : j < M.length) (xs : List D) : seqOf (.ptr j) (M.set j (.lst xs)) = some xs := seqOf_ptr (List.getElem?_set_self h)
theorem lstOf_set {M : MS} {j : Nat} (h : j < M.length) (xs : List D) : lstOf (.ptr j) (M.set j (.lst xs)) = some xs := lstOf_ptr (List.getElem?_set_self h)
theorem ixN_0 {n : Nat} : ixN (n + 1) 0 = some 0 := by unfold ixN; rw [if_pos (by decide), if_pos (by omega)]; rfl
theorem ixN_1 {n : Nat} : ixN (n + 1 + 1) 1 = some 1 := by unfold ixN; rw [if_pos (by decide), if_pos (by omega)]; rfl
theorem rdEq_i (a b : Int) (M : MS) (k : D → Prop) : rdEq (.int a) (.int b) M k = k (.bl (decide (a = b))) := by
  unfold rdEq
  rw [eqOk_int, eqOk_int, cellD_int, cellD_int, eqD_int, true_and, true_and]
theorem rdNe_i (a b : Int) (M : MS) (k : D → Prop) : rdNe (.int a) (.int b) M k = k (.bl (!decide (a = b))) := by
  unfold rdNe
  rw [eqOk_int, eqOk_int, cellD_int, cellD_int, eqD_int, true_and, true_and]
theorem sI_2 {n : Nat} : seqIndex? 2 (n + 1 + 1 + 1) = some 2 := by unfold seqIndex?; simp; omega
theorem rdInt_i (i : Int) (M : MS) (k : D → Prop) : rdInt [.int i] M k = k (.int i) := by simp [rdInt]
theorem rdInt_b (b : Bool) (M : MS) (k : D → Prop) : rdInt [.bl b] M k = k (.int (if b then 1 else 0)) := by simp [rdInt]
theorem rdAbs_i (i : Int) (M : MS) (k : D → Prop) : rdAbs [.int i] M k = k (.int (if i < 0 then -i else i)) := by simp [rdAbs]
theorem rdMax2_i (i j : Int) (M : MS) (k : D → Prop) : rdMax2 [.int i, .int j] M k = k (.int (if j > i then j else i)) := by
  refine propext ⟨?_, fun h => ⟨i, j, rfl, h⟩⟩
  rintro ⟨a, b, e, h⟩
  injection e with e1 e2; injection e2 with e2; injection e1 with e1; injection e2 with e2; subst e1 e2
  exact h
local macro_rules | `(tactic| walk_at "ev") => `(tactic| simp only [sSeq, sAsg, sRet, sRetN, sIf, sDrop, sNx, sPar, sPar3, gN, gT, gsCons, gsNil, dV, dC, dI, dOp, dUn, dCh, dB, dAnd, dOr, dNot, dAndV, dOrV, dNotV, dIf, dNil, dCons, dTup, dLst, dCB, dCall, dI0, dI2, rdLen, rdIsi, rdIx, dGet,
  sFor_eq, dLc_eq, iTp, iLs, iSc, iR1, iR2, iEnT, iEnL, wipeD_nil, wipeD_cons, sOpen, dShut, sBrk, sCnt, sNever, dNeg, dPart, dNoPart, dSl, sAug, sSetL, dApp, dPopAt, dNewL, dNewCat, dToRng, sPut, dMake, finG, sRaise0, sRaise1, sFrz, dNewRep, dNewList, dPop, dStar, dUn,
  rdEq_i, rdNe_i, sI_2, ixN_0, ixN_1, Cell.lst.injEq, rdInt_i, rdInt_b, rdAbs_i, rdMax2_i, eqD_int, eqOk_int, cellD_int, eqD_bl, eqOk_bl, cellD_bl, eqOk_non, seqOf_lst, seqOf_tup, lstOf_lst, atD_0, atD_1, atD_2, List.set_set, cellD_lst, cellD_tup, iL_cons, iL_nil, iL_len,
  startD, bodyN, List.map_cons, List.map_nil, List.length_cons, List.length_nil, List.replicate_succ, List.replicate_zero, List.cons_append, List.nil_append, List.append_nil, List.append_assoc, List.getElem?_cons_zero, List.getElem?_cons_succ, List.set_cons_zero, List.set_cons_succ, Nat.reduceSub, Nat.reduceAdd, Nat.zero_add,
  Option.some.injEq, exists_eq_left', exists_eq_left, D.int.injEq, D.bl.injEq, D.lst.injEq, D.tup.injEq, D.str.injEq, D.ptr.injEq, D.scr.injEq, D.gm.injEq, List.cons.injEq, and_true, true_and, exists_and_left, exists_and_right, D.ty.injEq, and_assoc, ↓reduceIte, eq_self, Bool.not_true, Bool.not_false, Bool.false_eq_true])

def D.isI : D → Bool
  | .int _ => true
  | _ => false
def isFrom (x : D) (lo hi : Int) : Bool := match x with
  | .int i => decide (lo ≤ i) && decide (i ≤ hi)
  | _ => false
abbrev sp_is_integer : DSp := fun xs M X k => ∃ x, xs = [x] ∧ tyN x M ∈ tyL ∧ k (.bl (D.isI x)) M
abbrev d_is_integer : DS := (sRet (dAndV (dCB rdIsi (dCons (dV 0) (dCons (dC (.ty "int")) dNil))) (dNotV (dCB rdIsi (dCons (dV 0) (dCons (dC (.ty "bool")) dNil))))))
theorem isB_int {x : D} {M : MS} (h : tyN x M ∈ tyL) : isB (tyN x M) "int" = (D.isI x || isB (tyN x M) "bool") ∧ (D.isI x = true → isB (tyN x M) "bool" = false) := by
  cases x with
  | ptr j =>
    unfold tyN at h ⊢
    dsimp only at h ⊢
    split
    · exact ⟨rfl, fun e => by cases e⟩
    · rename_i q
      split at h
      · rename_i xs q2; exact absurd q2 (q xs)
      · exact absurd h (by decide)
  | gm a b c => exact absurd h (by simp [tyN, tyL])
  | scr a => exact absurd h (by simp [tyN, tyL])
  | ty a => exact absurd h (by simp [tyN, tyL])
  | gcl => exact absurd h (by simp [tyN, tyL])
  | exc _ _ _ => exact absurd h (by simp [tyN, tyL])
  | exn _ => exact absurd h (by simp [tyN, tyL])
  | ecl _ => exact absurd h (by simp [tyN, tyL])
  | _ => exact ⟨rfl, fun e => by first | rfl | cases e⟩
theorem pure_is_integer : ∀ ys M X P, sp_is_integer ys M X P → d_is_integer (startD 1 ys) M (bodyN M.length X P) := by
  rintro ys M X P ⟨x, rfl, h, q⟩
  unfold d_is_integer
  walk_at "ev"
  refine ⟨h, by decide, ?_⟩
  obtain ⟨h1, h2⟩ := isB_int h
  rw [h1]
  cases e : D.isI x with
  | true => rw [e] at q; rw [h2 e]; exact ⟨h, by decide, .same q⟩
  | false =>
    rw [e] at q
    cases e2 : isB (tyN x M) "bool" with
    | false => exact .same q
    | true => exact ⟨h, by decide, .same q⟩
abbrev sp_is_from : DSp := fun xs M X k => ∃ x lo hi, xs = [x, .int lo, .int hi] ∧ tyN x M ∈ tyL ∧ k (.bl (isFrom x lo hi)) M
abbrev d_is_from : DS := (sRet (dAndV (dCall sp_is_integer [] (dCons (dV 0) dNil)) (dCh rdLe rdLe (dV 1) (dV 0) (dV 2))))
theorem pure_is_from : ∀ ys M X P, sp_is_from ys M X P → d_is_from (startD 3 ys) M (bodyN M.length X P) := by
  rintro ys M X P ⟨x, lo, hi, rfl, h, q⟩
  unfold d_is_from
  walk_at "ev"
  refine ⟨x, rfl, h, ?_⟩
  walk_at "ev"
  cases x with
  | int i =>
    unfold isFrom at q
    simp only [D.isI, if_true]
    walk_at "ev"
    by_cases c : lo ≤ i
    · simp only [c, decide_true, if_true, Bool.true_and] at q ⊢
      exact .same q
    · simp only [c, decide_false, Bool.false_and] at q ⊢
      exact .same q
  | _ => exact .same q
/-! ### the source of numbers -/
abbrev sp_law_random : DSp := fun xs M X k => ∃ l salt, xs = [.scr l, .int salt] ∧ 0 ≤ salt ∧ l.length < 1000 ∧ (∀ c ∈ M, ClnC c) ∧ k (.ptr M.length) (M ++ [.rng])
abbrev d_law_random : DS := (sSeq (sAsg (dV 1) (gN 2)) (sSeq (sFor (iSc (dV 0)) (gN 3) (sAsg (dOp rdMod (dCB rdInt (dCons (dOp rdAdd (dOp rdMul (dV 2) (dI 31)) (dCB rdAbs (dCons (dV 3) dNil))) dNil)) (dI 2147483647)) (gN 2))) (sRet (dToRng (dNewCat (dLst (dCons (dV 2) (dCons (dI 0) dNil))) (dLc (iSc (dV 0)) (gN 3) (dB (dOp rdGe (dV 3) (dOp rdPow (dI 10) (dI 18)))) (dV 3) [3]))))))
theorem pure_law_random : ∀ ys M X P, sp_law_random ys M X P → d_law_random (startD 4 ys) M (bodyN M.length X P) := by
  rintro ys M X P ⟨l, salt, rfl, h0, hl, hM, q⟩
  unfold d_law_random
  walk_at "ev"
  refine for_inv (fun i g M' => ∃ s a, 0 ≤ s ∧ g = [some (.scr l), some (.int salt), some (.int s), a] ∧ M' = M) ⟨salt, none, h0, rfl, rfl⟩ ?_ ?_
  · rintro i y g1 M1 e ⟨s, a, hs, rfl, rfl⟩
    rw [iL_get] at e
    obtain ⟨c, _, rfl⟩ : ∃ c, l[i]? = some c ∧ D.int c = y := by
      cases h : l[i]? with
      | none => rw [h] at e; cases e
      | some c => exact ⟨c, rfl, by simpa [h] using e⟩
    walk_at "ev"
    refine ⟨mulB (by decide), by decide, _, Int.emod_nonneg _ (by decide), rfl, _, rfl⟩
  · rintro g1 M1 ⟨s, a, hs, rfl, rfl⟩
    walk_at "ev"
    refine ⟨by decide, lc_filter (fun y => match y with | .int i => decide (10 ^ 18 ≤ i) | _ => false) id hM (by rw [iL_len, sizeLine_val]; omega) (fun y hy => iL_cln y hy) ?_ ?_⟩
    · intro y hy acc _ P R h1 h2
      obtain ⟨c, _, rfl⟩ := List.mem_map.mp hy
      walk_at "ev"
      refine ⟨⟨by decide, by decide, by decide⟩, ?_⟩
      by_cases hc : (10 : Int) ^ 18 ≤ c
      · have e : decide ((10 : Int) ^ Int.toNat 18 ≤ c) = true := decide_eq_true hc
        rw [e]
        simpa using h1 (decide_eq_true hc)
      · have e : decide ((10 : Int) ^ Int.toNat 18 ≤ c) = false := decide_eq_false hc
        rw [e]
        simpa using h2 (decide_eq_false hc)
    · rw [List.map_id, filt_iL (fun i => decide (10 ^ 18 ≤ i)) l _ (fun i => rfl)]
      have hf := List.length_filter_le (fun i => decide ((10 : Int) ^ 18 ≤ i)) l
      refine ⟨_, lstOf_lst _ _, by rw [iL_len, sizeLine_val]; omega, s :: 0 :: l.filter (fun i => decide (10 ^ 18 ≤ i)), ?_, ⟨by simp, ?_⟩, ?_⟩
      · rw [List.getElem?_append_right (Nat.le_refl _), Nat.sub_self]; rfl
      · intro i hi
        rcases List.mem_cons.mp hi with rfl | hi
        · exact hs
        rcases List.mem_cons.mp hi with rfl | hi
        · decide
        have := (List.mem_filter.mp hi).2
        have := of_decide_eq_true this
        omega
      · refine .same ?_
        rw [List.set_append_right _ _ (Nat.le_refl _), Nat.sub_self]
        exact q
theorem divB2 {i j : Int} (h0 : 0 < j) (h : j < 2 ^ 200) : CDivW i j := by
  refine wide_div (b := 200) h0 ?_ (by decide) (by decide)
  have h2 : j < ((2 ^ 200 : Nat) : Int) := by
    rw [Int.natCast_pow]
    exact h
  omega
abbrev sp_law_below : DSp := fun xs M X k => ∃ j n, xs = [.ptr j, .int n] ∧ M[j]? = some .rng ∧ 0 < n ∧ n < 2 ^ 200 ∧ ∀ r, 0 ≤ r → r < n → k (.int r) M
abbrev d_law_below : DS := (sOpen 0 (sSeq (sIf (dAnd (dB (dOp rdEq (dOp rdIx (dV 0) (dI 1)) (dI 0))) (dB (dOp rdGt (dCB rdLen (dCons (dV 0) dNil)) (dI 2)))) (sSetL (dPopAt (dV 0) (dI 2)) (dV 0) (dI 1)) sNx) (sSeq (sIf (dB (dOp rdGt (dOp rdIx (dV 0) (dI 1)) (dI 0))) (sSeq (sAsg (dOp rdMod (dCB rdInt (dCons (dOp rdIx (dV 0) (dI 1)) dNil)) (dV 1)) (gN 2)) (sSeq (sSetL (dOp rdDiv (dOp rdIx (dV 0) (dI 1)) (dV 1)) (dV 0) (dI 1)) (sRet (dShut 0 (dV 2))))) sNx) (sSeq (sSetL (dOp rdMod (dCB rdInt (dCons (dOp rdAdd (dOp rdMul (dOp rdIx (dV 0) (dI 0)) (dI 48271)) (dI 11)) dNil)) (dI 2147483647)) (dV 0) (dI 0)) (sRet (dShut 0 (dOp rdMod (dCB rdInt (dCons (dOp rdDiv (dOp rdIx (dV 0) (dI 0)) (dI 64)) dNil)) (dV 1))))))))
theorem pure_law_below : ∀ ys M X P, sp_law_below ys M X P → d_law_below (startD 3 ys) M (bodyN M.length X P) := by
  rintro ys M X P ⟨j, n, rfl, hj, hn, hn2, q⟩
  unfold d_law_below
  walk_at "ev"
  refine ⟨hj, ?_⟩
  rintro ns ⟨h1, h2⟩
  obtain ⟨a, b, r, rfl⟩ : ∃ a b r, ns = a :: b :: r := by
    match ns, h1 with
    | a :: b :: r, _ => exact ⟨a, b, r, rfl⟩
  have hlt : j < M.length := (List.getElem?_eq_some_iff.mp hj).1
  have ha := h2 a (by simp)
  have hb := h2 b (by simp)
  have hS : M.set j .rng = M := set_same hj
  by_cases hb0 : b = 0
  · subst hb0
    cases r with
    | nil =>
      simp only [seqOf_set hlt, List.getElem?_set_self hlt]
      walk_at "ev"
      simp
      exact ⟨mulB (by decide), divB (by decide) (by decide), hn, [_, 0], rfl, ⟨by simp, by simp [Int.emod_nonneg]⟩, .same (by rw [hS]; exact q _ (Int.emod_nonneg _ (by omega)) (Int.emod_lt_of_pos _ hn))⟩
    | cons c r =>
      simp only [seqOf_set hlt, List.getElem?_set_self hlt]
      walk_at "ev"
      simp
      have hc := h2 c (by simp)
      have hr : ∀ x ∈ r, 0 ≤ x := fun x hx => h2 x (by simp [hx])
      rw [if_pos (by omega)]
      walk_at "ev"
      by_cases hc0 : 0 < c
      · rw [if_pos hc0]
        refine ⟨hn, divB2 hn hn2, a :: c / n :: r, rfl, ⟨by simp, ?_⟩, .same (by rw [hS]; exact q _ (Int.emod_nonneg _ (by omega)) (Int.emod_lt_of_pos _ hn))⟩
        intro x hx
        rcases List.mem_cons.mp hx with rfl | hx
        · exact ha
        rcases List.mem_cons.mp hx with rfl | hx
        · exact Int.ediv_nonneg hc (by omega)
        exact hr x hx
      · rw [if_neg hc0]
        refine ⟨mulB (by decide), divB (by decide) (by decide), hn, _ :: c :: r, rfl, ⟨by simp, ?_⟩, .same (by rw [hS]; exact q _ (Int.emod_nonneg _ (by omega)) (Int.emod_lt_of_pos _ hn))⟩
        intro x hx
        rcases List.mem_cons.mp hx with rfl | hx
        · exact Int.emod_nonneg _ (by decide)
        rcases List.mem_cons.mp hx with rfl | hx
        · exact hc
        exact hr x hx
  · simp only [seqOf_set hlt, List.getElem?_set_self hlt]
    walk_at "ev"
    simp
    rw [if_neg hb0, if_pos (by omega)]
    refine ⟨hn, divB2 hn hn2, a :: b / n :: r, rfl, ⟨by simp, ?_⟩, .same (by rw [hS]; exact q _ (Int.emod_nonneg _ (by omega)) (Int.emod_lt_of_pos _ hn))⟩
    intro x hx
    rcases List.mem_cons.mp hx with rfl | hx
    · exact ha
    rcases List.mem_cons.mp hx with rfl | hx
    · exact Int.ediv_nonneg hb (by omega)
    exact h2 x (by simp [hx])
abbrev sp_law_pick : DSp := fun xs M X k => ∃ j x ys, xs = [.ptr j, x] ∧ seqOf x M = some ys ∧ M[j]? = some .rng ∧ ys ≠ [] ∧ ys.length < 2 ^ 60 ∧ ∀ y ∈ ys, k y M
abbrev d_law_pick : DS := (sRet (dOp rdIx (dV 1) (dCall sp_law_below [] (dCons (dV 0) (dCons (dCB rdLen (dCons (dV 1) dNil)) dNil)))))
--  2 ['_law_d', '_law_items']
theorem pure_law_pick : ∀ ys M X P, sp_law_pick ys M X P → d_law_pick (startD 2 ys) M (bodyN M.length X P) := by
  rintro ys M X P ⟨j, x, zs, rfl, hx, hj, hne, hl, q⟩
  unfold d_law_pick
  walk_at "ev"
  have hp : 0 < zs.length := List.length_pos_iff.mpr hne
  refine ⟨zs, hx, j, _, rfl, hj, by omega, by omega, fun r h0 h1 => ⟨zs, hx, r, rfl, zs[r.toNat]'(by omega), ?_, .same (q _ (List.getElem_mem _))⟩⟩
  · rw [atD_in h0]
    exact List.getElem?_eq_getElem (by omega)
/-! ### Game -/
structure GOk (n s : Int) (ws : List Int) : Prop where
  n2 : 2 ≤ n
  n12 : n ≤ 12
  s2 : 2 ≤ s
  s9 : s ≤ 9
  l1 : 1 ≤ ws.length
  ls : (ws.length : Int) < s
  w : ∀ w ∈ ws, 1 ≤ w ∧ w ≤ n - 1
  up : ∀ (i : Nat) (a b : Int), ws[i]? = some a → ws[i + 1]? = some b → a < b
def leD (x y : D) : Bool := match x, y with
  | .int a, .int b => decide (a ≤ b)
  | _, _ => false
def badAt (n : Int) (ys : List D) (i : Nat) : Bool := !(isFrom (ys.getD i .non) 1 (n - 1)) || (decide (0 < i) && leD (ys.getD i .non) (ys.getD (i - 1) .non))
def firstBad (n : Int) (ys : List D) : Option Nat := (List.range ys.length).find? (badAt n ys)
def intD : D → Int
  | .int i => i
  | _ => 0
def gameErr (x y z : D) : Option Exn := if isFrom x 2 12 = false then some ⟨"BadChildren", none⟩ else if isFrom y 2 9 = false then some ⟨"BadParts", none⟩ else match z with
  | .tup ys => if 1 ≤ ys.length ∧ (ys.length : Int) < intD y then (firstBad (intD x) ys).map (fun (i : Nat) => (⟨"BadSteps", some ("index", .int (i : Int))⟩ : Exn)) else some ⟨"BadSteps", some ("index", .non)⟩
  | _ => some ⟨"BadSteps", some ("index", .non)⟩
theorem isFrom_int {x : D} {lo hi : Int} (h : isFrom x lo hi = true) : ∃ i, x = .int i ∧ lo ≤ i ∧ i ≤ hi := by
  cases x with
  | int i =>
    simp only [isFrom, Bool.and_eq_true, decide_eq_true_eq] at h
    exact ⟨i, rfl, h⟩
  | _ => cases h
theorem isFrom_i {lo hi i : Int} (h : lo ≤ i ∧ i ≤ hi) : isFrom (.int i) lo hi = true := by
  simp only [isFrom, Bool.and_eq_true, decide_eq_true_eq]
  exact h
theorem find_lt {p : Nat → Bool} {n i : Nat} (h1 : ∀ j, j < i → p j = false) (h2 : p i = true) (hi : i < n) : (List.range n).find? p = some i := by
  rw [List.find?_range_eq_some]
  exact ⟨h2, by simpa using hi, fun j hj => by simpa using h1 j hj⟩
theorem find_none {p : Nat → Bool} {n : Nat} (h1 : ∀ j, j < n → p j = false) : (List.range n).find? p = none := by
  rw [List.find?_range_eq_none]
  intro j hj
  simpa using h1 j hj
theorem enumD_inv {ys : List D} {i : Nat} {y : D} (h : (enumD ys)[i]? = some y) : ∃ d, ys[i]? = some d ∧ y = .tup [.int (i : Int), d] := by
  have hi := (List.getElem?_eq_some_iff.mp h).1
  rw [enumD_len] at hi
  have e := enumD_get (List.getElem?_eq_getElem hi)
  rw [e] at h
  cases h
  exact ⟨_, List.getElem?_eq_getElem hi, rfl⟩
theorem getD_of {ys : List D} {i : Nat} {d : D} (h : ys[i]? = some d) : ys.getD i .non = d := by
  rw [List.getD_eq_getElem?_getD, h]; rfl
theorem gameErr_none {n s : Int} {ws : List Int} (g : GOk n s ws) : gameErr (.int n) (.int s) (.tup (iL ws)) = none := by
  unfold gameErr
  rw [isFrom_i ⟨g.n2, g.n12⟩, isFrom_i ⟨g.s2, g.s9⟩, if_neg (by decide), if_neg (by decide)]
  show (if 1 ≤ (iL ws).length ∧ ((iL ws).length : Int) < s then _ else _) = none
  rw [if_pos (by rw [iL_len]; exact ⟨g.l1, g.ls⟩)]
  have : firstBad n (iL ws) = none := find_none fun j hj => by
    rw [iL_len] at hj
    have e : (iL ws)[j]? = some (.int ws[j]) := by rw [iL_get, List.getElem?_eq_getElem hj]; rfl
    unfold badAt
    rw [getD_of e, isFrom_i (g.w _ (List.getElem_mem hj))]
    cases j with
    | zero => rfl
    | succ j =>
      have e2 : (iL ws)[j]? = some (.int ws[j]) := by rw [iL_get, List.getElem?_eq_getElem (by omega)]; rfl
      have e3 : (iL ws).getD (j + 1 - 1) .non = .int ws[j] := getD_of e2
      rw [e3]
      have := g.up j ws[j] ws[j + 1] (List.getElem?_eq_getElem (by omega)) (List.getElem?_eq_getElem hj)
      show (!true || (decide (0 < j + 1) && decide (ws[j + 1] ≤ ws[j]))) = false
      rw [decide_eq_false (by omega : ¬ ws[j + 1] ≤ ws[j]), Bool.and_false]
      rfl
  show (firstBad n (iL ws)).map _ = none
  rw [this]
  rfl
theorem gameErr_ok {x y z : D} (h : gameErr x y z = none) : ∃ n s ws, x = .int n ∧ y = .int s ∧ z = .tup (iL ws) ∧ GOk n s ws := by
  unfold gameErr at h
  split at h
  · cases h
  split at h
  · cases h
  rename_i h1 h2
  obtain ⟨n, rfl, h3, h4⟩ := isFrom_int (Bool.not_eq_false _ ▸ h1)
  obtain ⟨s, rfl, h5, h6⟩ := isFrom_int (Bool.not_eq_false _ ▸ h2)
  split at h
  · rename_i ys
    split at h
    · rename_i h7
      have hb : ∀ j, j < ys.length → badAt n ys j = false := by
        have : firstBad n ys = none := by
          cases e : firstBad n ys with
          | none => rfl
          | some i => exfalso; change (firstBad n ys).map _ = none at h; rw [e] at h; cases h
        unfold firstBad at this
        rw [List.find?_range_eq_none] at this
        intro j hj
        simpa using this j hj
      have hint : ∀ (j : Nat) (d : D), ys[j]? = some d → ∃ i, d = .int i ∧ 1 ≤ i ∧ i ≤ n - 1 := fun j d e => by
        have := hb j (List.getElem?_eq_some_iff.mp e).1
        unfold badAt at this
        rw [getD_of e, Bool.or_eq_false_iff] at this
        exact isFrom_int (by simpa using this.1)
      have hys : ys = iL (ys.map intD) := by
        unfold iL
        rw [List.map_map]
        refine List.ext_getElem? fun j => ?_
        rw [List.getElem?_map]
        cases e : ys[j]? with
        | none => rfl
        | some d => obtain ⟨i, rfl, _⟩ := hint j d e; rfl
      refine ⟨n, s, ys.map intD, rfl, rfl, by rw [← hys], ⟨h3, h4, h5, h6, by rw [List.length_map]; exact h7.1, by rw [List.length_map]; exact h7.2, ?_, ?_⟩⟩
      · intro w hw
        obtain ⟨d, hd, rfl⟩ := List.mem_map.mp hw
        obtain ⟨j, hj⟩ := List.mem_iff_getElem?.mp hd
        obtain ⟨i, rfl, h⟩ := hint j d hj
        exact h
      · intro j a b ea eb
        rw [List.getElem?_map] at ea eb
        cases e1 : ys[j]? with
        | none => rw [e1] at ea; cases ea
        | some d1 =>
          cases e2 : ys[j + 1]? with
          | none => rw [e2] at eb; cases eb
          | some d2 =>
            rw [e1] at ea; rw [e2] at eb
            obtain ⟨i1, rfl, _⟩ := hint j d1 e1
            obtain ⟨i2, rfl, _⟩ := hint (j + 1) d2 e2
            cases ea; cases eb
            have := hb (j + 1) (List.getElem?_eq_some_iff.mp e2).1
            unfold badAt at this
            rw [getD_of e2, show j + 1 - 1 = j from rfl, getD_of e1, Bool.or_eq_false_iff] at this
            have h8 := this.2
            rw [decide_eq_true (by omega : 0 < j + 1), Bool.true_and] at h8
            have := of_decide_eq_false h8
            show i1 < i2
            omega
    · cases h
  · cases h
abbrev sp_Game_init (cG : Addr) : DSp := fun xs M X k => ∃ j x y z, xs = [.ptr j, x, y, z] ∧ M[j]? = some (.ins cG []) ∧ tyN x M ∈ tyL ∧ tyN y M ∈ tyL ∧ tyN z M ∈ tyL ∧ (∀ ys, z = .tup ys → ∀ d ∈ ys, tyN d M ∈ tyL) ∧ (∀ e, gameErr x y z = some e → X e M) ∧
  ∀ n s ws, x = .int n → y = .int s → z = .tup (iL ws) → GOk n s ws → k .non (M.set j (.ins cG (gmF n s ws)))
abbrev d_Game_init (cG : Addr) : DS := (sSeq (sIf (dNot (dB (dCall sp_is_from [] (dCons (dV 1) (dCons (dI 2) (dCons (dI 12) dNil)))))) (sRaise0 "BadChildren") sNx) (sSeq (sIf (dNot (dB (dCall sp_is_from [] (dCons (dV 2) (dCons (dI 2) (dCons (dI 9) dNil)))))) (sRaise0 "BadParts") sNx) (sSeq (sIf (dOr (dNot (dB (dCB rdIsi (dCons (dV 3) (dCons (dC (.ty "tuple")) dNil))))) (dNot (dB (dCh rdLe rdLt (dI 1) (dCB rdLen (dCons (dV 3) dNil)) (dV 2))))) (sRaise1 "BadSteps" "index" (dC .non)) sNx) (sSeq (sFor (iEnT (dCons (dV 3) dNil)) (gT 2 (gsCons (gN 4) (gsCons (gN 5) gsNil))) (sIf (dOr (dNot (dB (dCall sp_is_from [] (dCons (dV 5) (dCons (dI 1) (dCons (dOp rdSub (dV 1) (dI 1)) dNil)))))) (dAnd (dB (dOp rdGt (dV 4) (dI 0))) (dB (dOp rdLe (dV 5) (dOp rdIx (dV 3) (dOp rdSub (dV 4) (dI 1))))))) (sRaise1 "BadSteps" "index" (dV 4)) sNx)) (sSeq (sPut cG "size" (dV 0) (dV 1)) (sSeq (sPut cG "share" (dV 0) (dV 2)) (sPut cG "ways" (dV 0) (dV 3))))))))
--  6 ['self', 'children', 'parts', 'steps', 'index', 'step']
theorem pure_Game_init (cG : Addr) : ∀ ys M X P, sp_Game_init cG ys M X P → d_Game_init cG (startD 6 ys) M (bodyN M.length X P) := by
  rintro ys M X P ⟨j, x, y, z, rfl, hj, hx, hy, hz, hzs, hE, hK⟩
  unfold d_Game_init
  walk_at "ev"
  refine ⟨x, 2, 12, rfl, hx, ?_⟩
  cases ex : isFrom x 2 12 with
  | false =>
    walk_at "ev"
    exact .same (hE _ (by unfold gameErr; rw [if_pos ex]))
  | true =>
  obtain ⟨n, rfl, hn2, hn12⟩ := isFrom_int ex
  walk_at "ev"
  refine ⟨y, 2, 9, rfl, hy, ?_⟩
  cases ey : isFrom y 2 9 with
  | false =>
    walk_at "ev"
    exact .same (hE _ (by unfold gameErr; rw [if_neg (by rw [ex]; decide), if_pos ey]))
  | true =>
  obtain ⟨s, rfl, hs2, hs9⟩ := isFrom_int ey
  walk_at "ev"
  refine ⟨hz, by decide, ?_⟩
  have h0 : ∀ e, (match z with
      | .tup ys => if 1 ≤ ys.length ∧ (ys.length : Int) < s then (firstBad n ys).map (fun (i : Nat) => (⟨"BadSteps", some ("index", .int (i : Int))⟩ : Exn)) else some ⟨"BadSteps", some ("index", .non)⟩
      | _ => some ⟨"BadSteps", some ("index", .non)⟩) = some e → X e M := fun e h => hE e (by
    unfold gameErr; rw [if_neg (by rw [ex]; decide), if_neg (by rw [ey]; decide)]; exact h)
  by_cases hzt : ∃ ys, z = .tup ys
  · obtain ⟨zs, rfl⟩ := hzt
    dsimp only at h0
    have e1 : isB (tyN (.tup zs) M) "tuple" = true := rfl
    rw [e1]
    walk_at "ev"
    by_cases h1 : (1 : Int) ≤ (zs.length : Int)
    rotate_left
    · rw [decide_eq_false h1]
      walk_at "ev"
      rw [if_neg (fun h => h1 (by omega))] at h0
      exact .same (h0 _ rfl)
    rw [decide_eq_true h1]
    walk_at "ev"
    by_cases h2 : (zs.length : Int) < s
    rotate_left
    · rw [decide_eq_false h2]
      walk_at "ev"
      rw [if_neg (fun h => h2 h.2)] at h0
      exact .same (h0 _ rfl)
    rw [decide_eq_true h2]
    walk_at "ev"
    rw [if_pos ⟨by omega, h2⟩] at h0
    refine for_inv (fun i g M' => M' = M ∧ (∃ a b, g = [some (.ptr j), some (.int n), some (.int s), some (.tup zs), a, b]) ∧ ∀ m, m < i → badAt n zs m = false) ⟨rfl, ⟨none, none, rfl⟩, fun m h => by omega⟩ ?_ ?_
    · rintro i y g1 M1 e ⟨rfl, ⟨a, b, rfl⟩, hbad⟩
      obtain ⟨d, ed, rfl⟩ := enumD_inv e
      have hi := (List.getElem?_eq_some_iff.mp ed).1
      walk_at "ev"
      refine ⟨d, 1, n - 1, rfl, hzs _ rfl d (List.mem_of_getElem? ed), ?_⟩
      cases ed1 : isFrom d 1 (n - 1) with
      | false =>
        walk_at "ev"
        refine .same (h0 _ ?_)
        unfold firstBad
        rw [find_lt hbad (by unfold badAt; rw [getD_of ed, ed1]; rfl) hi]
        rfl
      | true =>
      walk_at "ev"
      obtain ⟨w, rfl, hw1, hw2⟩ := isFrom_int ed1
      by_cases hi0 : i = 0
      · subst hi0
        rw [decide_eq_false (by decide : ¬ (0 : Int) < ((0 : Nat) : Int))]
        walk_at "ev"
        refine ⟨⟨_, rfl⟩, fun m hm => ?_⟩
        have : m = 0 := by omega
        subst this
        unfold badAt
        rw [getD_of ed, ed1]
        rfl
      · rw [decide_eq_true (by omega : (0 : Int) < (i : Int))]
        walk_at "ev"
        obtain ⟨k, rfl⟩ : ∃ k, i = k + 1 := ⟨i - 1, by omega⟩
        have e2 : zs[k]? = some zs[k] := List.getElem?_eq_getElem (by omega)
        have hk := hbad k (by omega)
        unfold badAt at hk
        rw [getD_of e2, Bool.or_eq_false_iff] at hk
        obtain ⟨v, hv, _⟩ := isFrom_int (by simpa using hk.1)
        refine ⟨.int v, ?_, v, rfl, ?_⟩
        · rw [show (((k + 1 : Nat) : Int) - 1) = (k : Int) by omega, atD_nat, e2, hv]
        have eb : badAt n zs (k + 1) = decide (w ≤ v) := by
          unfold badAt
          rw [getD_of ed, show k + 1 - 1 = k from rfl, getD_of e2, hv, ed1, decide_eq_true (by omega : 0 < k + 1)]
          show (!true || (true && decide (w ≤ v))) = _
          simp
        by_cases hwv : w ≤ v
        · rw [decide_eq_true hwv]
          walk_at "ev"
          refine .same (h0 _ ?_)
          unfold firstBad
          rw [find_lt hbad (by rw [eb]; exact decide_eq_true hwv) hi]
          rfl
        · rw [decide_eq_false hwv]
          walk_at "ev"
          refine ⟨⟨_, rfl⟩, fun m hm => ?_⟩
          by_cases hm2 : m = k + 1
          · subst hm2
            rw [eb]; exact decide_eq_false hwv
          · exact hbad m (by omega)
    · rintro g1 M1 ⟨rfl, ⟨a, b, rfl⟩, hbad⟩
      rw [enumD_len] at hbad
      have hlt : j < M1.length := (List.getElem?_eq_some_iff.mp hj).1
      walk_at "ev"
      have hg : gameErr (.int n) (.int s) (.tup zs) = none := by
        unfold gameErr
        rw [if_neg (by rw [ex]; decide), if_neg (by rw [ey]; decide)]
        show (if 1 ≤ zs.length ∧ (zs.length : Int) < s then (firstBad n zs).map _ else _) = none
        rw [if_pos ⟨by omega, h2⟩]
        have : firstBad n zs = none := find_none hbad
        rw [this]
        rfl
      obtain ⟨n', s', ws, hn', hs', hw', ok⟩ := gameErr_ok hg
      injection hn' with hn'
      injection hs' with hs'
      subst hn' hs'
      refine ⟨[], hj, by decide, ?_⟩
      simp only [List.getElem?_set_self hlt, List.set_set, Option.some.injEq, Cell.ins.injEq, true_and, exists_eq_left']
      refine ⟨by show 1 < 1000; omega, by show 2 < 1000; omega, ?_⟩
      rw [hw']
      exact .same (hK _ _ _ rfl rfl hw' ok)
  · have e1 : isB (tyN z M) "tuple" = false := by
      cases z with
      | tup zs => exact absurd ⟨zs, rfl⟩ hzt
      | ptr k =>
        unfold tyN
        dsimp only
        split <;> rfl
      | _ => rfl
    rw [e1]
    walk_at "ev"
    refine .same (h0 _ ?_)
    cases z with
    | tup zs => exact absurd ⟨zs, rfl⟩ hzt
    | _ => rfl
end Sw

/-! SwB: _law_equal, _law_game. -/
namespace Sw
open PySem PySem.Spec PyProof.Rows L2 PD
def rdGet (f : Str) (x : D) (k : D → Prop) : Prop := ∃ n s ws y, x = .gm n s ws ∧ (gmF n s ws).lookup f = some y ∧ k y
theorem dGet_eq (f : Str) (d : DE) (g : En) (M : MS) (X : EK) (k : D → MS → Prop) : dGet f d g M X k = d g M X fun x M1 => rdGet f x fun y => k y M1 := rfl
theorem rdGet_of {f : Str} {n s : Int} {ws : List Int} {y : D} (h : (gmF n s ws).lookup f = some y) (k : D → Prop) : rdGet f (.gm n s ws) k = k y := by
  refine propext ⟨?_, fun q => ⟨n, s, ws, y, rfl, h, q⟩⟩
  rintro ⟨n', s', ws', y', e, h', q⟩
  injection e with e1 e2 e3
  subst e1 e2 e3
  rw [h] at h'
  cases h'
  exact q
theorem rdGet_size (n s : Int) (ws : List Int) (k : D → Prop) : rdGet "size" (.gm n s ws) k = k (.int n) := rdGet_of rfl k
theorem rdGet_share (n s : Int) (ws : List Int) (k : D → Prop) : rdGet "share" (.gm n s ws) k = k (.int s) := rdGet_of rfl k
theorem rdGet_ways (n s : Int) (ws : List Int) (k : D → Prop) : rdGet "ways" (.gm n s ws) k = k (.tup (iL ws)) := rdGet_of rfl k
local macro_rules | `(tactic| walk_at "ev") => `(tactic| simp only [sSeq, sAsg, sRet, sRetN, sIf, sDrop, sNx, sPar, sPar3, gN, gT, gsCons, gsNil, dV, dC, dI, dOp, dUn, dCh, dB, dAnd, dOr, dNot, dAndV, dOrV, dNotV, dIf, dNil, dCons, dTup, dLst, dCB, dCall, dSetLen, sTry, hdlD, dkRun, dkCls, dI0, dI2, rdLen, rdIsi, rdIsiT, rdIx, dGet_eq, rdGet_size, rdGet_share, rdGet_ways,
  sFor_eq, dLc_eq, iTp, iLs, iSc, iR1, iR2, iEnT, iEnL, iEnS, wipeD_nil, wipeD_cons, sOpen, dShut, sBrk, sCnt, sNever, dNeg, dPart, dNoPart, dSl, sAug, sSetL, dApp, dPopAt, dNewL, dNewCat, dToRng, sPut, dMake, finG, sRaise0, sRaise1, sFrz, dNewRep, dNewList, dPop, dStar, dUn,
  rdEq_i, rdNe_i, sI_2, ixN_0, ixN_1, Cell.lst.injEq, rdInt_i, rdInt_b, rdAbs_i, rdMax2_i, eqD_int, eqOk_int, cellD_int, eqD_bl, eqOk_bl, cellD_bl, eqOk_non, seqOf_lst, seqOf_tup, lstOf_lst, atD_0, atD_1, atD_2, List.set_set, cellD_lst, cellD_tup, iL_cons, iL_nil, iL_len,
  startD, bodyN, List.map_cons, List.map_nil, List.length_cons, List.length_nil, List.replicate_succ, List.replicate_zero, List.cons_append, List.nil_append, List.append_nil, List.getElem?_cons_zero, List.getElem?_cons_succ, List.set_cons_zero, List.set_cons_succ, Nat.reduceSub, Nat.reduceAdd, Nat.zero_add,
  Option.some.injEq, exists_eq_left', exists_eq_left, D.int.injEq, D.bl.injEq, D.lst.injEq, D.tup.injEq, D.str.injEq, D.ptr.injEq, D.scr.injEq, D.gm.injEq, List.cons.injEq, and_true, true_and, exists_and_left, exists_and_right, D.ty.injEq, and_assoc, ↓reduceIte, eq_self, Bool.not_true, Bool.not_false, Bool.false_eq_true, decide_true, decide_false])
/-- plain data of a depth -/
inductive Pz : Nat → D → Prop
  | non (n : Nat) : Pz n .non
  | bl (n : Nat) (b : Bool) : Pz n (.bl b)
  | int (n : Nat) (i : Int) : Pz n (.int i)
  | str (n : Nat) (s : Str) : PyData.strOk s = true → Pz n (.str s)
  | lst (n : Nat) (xs : List D) : (∀ x ∈ xs, Pz n x) → xs.length < 16777216 → Pz (n + 1) (.lst xs)
  | tup (n : Nat) (xs : List D) : (∀ x ∈ xs, Pz n x) → xs.length < 16777216 → Pz (n + 1) (.tup xs)
theorem Pz.tyl {n : Nat} {x : D} (h : Pz n x) (M : MS) : tyN x M ∈ tyL := by cases h <;> simp [tyN, tyL]
theorem Pz.cln {n : Nat} {x : D} (h : Pz n x) : Cln x := by
  induction h with
  | non => exact .non
  | bl _ b => exact .bl b
  | int _ b => exact .int b
  | str _ b => exact .str b
  | lst _ xs _ _ ih => exact .lst ih
  | tup _ xs _ _ ih => exact .tup ih
theorem Pz.pl {n : Nat} {x : D} (h : Pz n x) : Pl n x := by
  induction h with
  | non n => exact .non n
  | bl n b => exact .bl n b
  | int n b => exact .int n b
  | str n b hb => exact .str n b hb
  | lst n xs _ _ ih => exact .lst n xs ih
  | tup n xs _ _ ih => exact .tup n xs ih
theorem plMono {n m : Nat} {x : D} (h : Pl n x) (l : n ≤ m) : Pl m x := by
  induction h generalizing m with
  | non n => exact .non m
  | bl n b => exact .bl m b
  | int n b => exact .int m b
  | str n b hb => exact .str m b hb
  | lst n xs _ ih => obtain ⟨k, rfl⟩ : ∃ k, m = k + 1 := ⟨m - 1, by omega⟩; exact .lst k xs fun x hx => ih x hx (by omega)
  | tup n xs _ ih => obtain ⟨k, rfl⟩ : ∃ k, m = k + 1 := ⟨m - 1, by omega⟩; exact .tup k xs fun x hx => ih x hx (by omega)
theorem Pz.mono {n m : Nat} {x : D} (h : Pz n x) (l : n ≤ m) : Pz m x := by
  induction h generalizing m with
  | non n => exact .non m
  | bl n b => exact .bl m b
  | int n b => exact .int m b
  | str n b hb => exact .str m b hb
  | lst n xs _ hl ih => obtain ⟨k, rfl⟩ : ∃ k, m = k + 1 := ⟨m - 1, by omega⟩; exact .lst k xs (fun x hx => ih x hx (by omega)) hl
  | tup n xs _ hl ih => obtain ⟨k, rfl⟩ : ∃ k, m = k + 1 := ⟨m - 1, by omega⟩; exact .tup k xs (fun x hx => ih x hx (by omega)) hl
theorem Pz.iL {l : List Int} (n : Nat) : ∀ x ∈ PD.iL l, Pz n x := fun x h => by
  obtain ⟨i, _, rfl⟩ := List.mem_map.mp h
  exact .int n i
theorem Pz.tL {l : List Int} (n : Nat) (h : l.length < 16777216) : Pz (n + 1) (.tup (PD.iL l)) := .tup n _ (Pz.iL n) (by rw [iL_len]; exact h)
theorem Pz.lL {l : List Int} (n : Nat) (h : l.length < 16777216) : Pz (n + 1) (.lst (PD.iL l)) := .lst n _ (Pz.iL n) (by rw [iL_len]; exact h)
theorem eqOkOf {M : MS} {n : Nat} {x : D} (h : Pl n x) (l : n ≤ 30) : EqOk M x := by
  cases h with
  | non => exact ⟨.non _, fun j e => nomatch e⟩
  | bl _ b => exact ⟨.bl _ b, fun j e => nomatch e⟩
  | int _ b => exact ⟨.int _ b, fun j e => nomatch e⟩
  | str _ b hb => exact ⟨.str _ b hb, fun j e => nomatch e⟩
  | lst n xs h => exact ⟨plMono (Pl.lst n xs h) l, fun j e => nomatch e⟩
  | tup n xs h => exact ⟨plMono (Pl.tup n xs h) l, fun j e => nomatch e⟩
theorem Pz.cell {n : Nat} {x : D} (h : Pz n x) (M : MS) : cellD M x = x := by cases h <;> rfl
/-- data equality of plain data: for tuples of ints -/
theorem eqD_iL : ∀ (a b : List Int), PyData.eqvAll (D.pys (PD.iL a)) (D.pys (PD.iL b)) = decide (a = b)
  | [], [] => rfl
  | [], _ :: _ => rfl
  | _ :: _, [] => rfl
  | x :: a, y :: b => by
    show (PyData.eqv (.int x) (.int y) && PyData.eqvAll (D.pys (PD.iL a)) (D.pys (PD.iL b))) = _
    rw [eqD_iL a b, show PyData.eqv (.int x) (.int y) = decide (x = y) from eqD_int x y]
    by_cases h1 : x = y <;> by_cases h2 : a = b <;> simp [h1, h2]
theorem eqD_tL (a b : List Int) : eqD (.tup (PD.iL a)) (.tup (PD.iL b)) = decide (a = b) := eqD_iL a b
theorem eqD_lL (a b : List Int) : eqD (.lst (PD.iL a)) (.lst (PD.iL b)) = decide (a = b) := eqD_iL a b
theorem rdEq_t (a b : List Int) (M : MS) (k : D → Prop) (h : k (.bl (decide (a = b)))) : rdEq (.tup (PD.iL a)) (.tup (PD.iL b)) M k := by
  refine ⟨eqOkOf (n := 1) (.tup 0 _ fun x hx => (Pz.iL 0 x hx).pl) (by decide), eqOkOf (n := 1) (.tup 0 _ fun x hx => (Pz.iL 0 x hx).pl) (by decide), ?_⟩
  rw [cellD_tup, cellD_tup, eqD_tL]
  exact h
theorem rdNe_t (a b : List Int) (M : MS) (k : D → Prop) (h : k (.bl (!decide (a = b)))) : rdNe (.tup (PD.iL a)) (.tup (PD.iL b)) M k := by
  refine ⟨eqOkOf (n := 1) (.tup 0 _ fun x hx => (Pz.iL 0 x hx).pl) (by decide), eqOkOf (n := 1) (.tup 0 _ fun x hx => (Pz.iL 0 x hx).pl) (by decide), ?_⟩
  rw [cellD_tup, cellD_tup, eqD_tL]
  exact h
theorem rdNe_b (a b : Bool) (M : MS) (k : D → Prop) : rdNe (.bl a) (.bl b) M k = k (.bl (!decide (a = b))) := by
  unfold rdNe
  rw [eqOk_bl, eqOk_bl, cellD_bl, cellD_bl, eqD_bl, true_and, true_and]
theorem rdEq_b (a b : Bool) (M : MS) (k : D → Prop) : rdEq (.bl a) (.bl b) M k = k (.bl (decide (a = b))) := by
  unfold rdEq
  rw [eqOk_bl, eqOk_bl, cellD_bl, cellD_bl, eqD_bl, true_and, true_and]
theorem rdIs_n (x : D) (M : MS) (k : D → Prop) : rdIs x .non M k = k (.bl x.isN) := by simp [rdIs]
theorem rdEq_z {n : Nat} {x y : D} (hx : Pz n x) (hy : Pz n y) (hn : n ≤ 30) (M : MS) (k : D → Prop) : rdEq x y M k = k (.bl (eqD x y)) := by
  unfold rdEq
  rw [eq_true (eqOkOf (M := M) hx.pl hn), eq_true (eqOkOf (M := M) hy.pl hn), hx.cell, hy.cell, true_and, true_and]
theorem eqD_str (a b : Str) : eqD (.str a) (.str b) = decide (a = b) := by
  show (a == b) = _
  by_cases h : a = b
  · rw [decide_eq_true h]; exact beq_iff_eq.mpr h
  · rw [decide_eq_false h]; exact beq_false_of_ne h
abbrev sp_law_equal (n : Nat) : DSp := fun xs M X k => ∃ x y, xs = [x, y] ∧ Pz n x ∧ Pz n y ∧ (∀ c ∈ M, ClnC c) ∧ ∀ b : Bool, (b = true ↔ x = y) → k (.bl b) M
abbrev d_law_equal (sp : DSp) : DS := (sSeq (sIf (dB (dOp rdIs (dV 1) (dC .non))) (sRet (dOp rdIs (dV 0) (dC .non))) sNx) (sSeq (sIf (dB (dCB rdIsi (dCons (dV 1) (dCons (dC (.ty "bool")) dNil)))) (sRet (dAndV (dCB rdIsi (dCons (dV 0) (dCons (dC (.ty "bool")) dNil))) (dOp rdEq (dV 0) (dV 1)))) sNx) (sSeq (sIf (dB (dCB rdIsi (dCons (dV 1) (dCons (dC (.ty "int")) dNil)))) (sRet (dAndV (dCB rdIsi (dCons (dV 0) (dCons (dC (.ty "int")) dNil))) (dAndV (dNotV (dCB rdIsi (dCons (dV 0) (dCons (dC (.ty "bool")) dNil)))) (dOp rdEq (dV 0) (dV 1))))) sNx) (sSeq (sIf (dB (dCB rdIsi (dCons (dV 1) (dCons (dC (.ty "str")) dNil)))) (sRet (dAndV (dCB rdIsi (dCons (dV 0) (dCons (dC (.ty "str")) dNil))) (dOp rdEq (dV 0) (dV 1)))) sNx) (sSeq (sIf (dB (dCB rdIsi (dCons (dV 1) (dCons (dC (.ty "dict")) dNil)))) (sSeq sNever sNever) sNx) (sSeq (sIf (dB (dOp rdNe (dCB rdIsi (dCons (dV 1) (dCons (dC (.ty "tuple")) dNil))) (dCB rdIsi (dCons (dV 0) (dCons (dC (.ty "tuple")) dNil))))) (sRet (dC (.bl false))) sNx) (sSeq (sIf (dB (dOp rdNe (dCB rdIsi (dCons (dV 1) (dCons (dC (.ty "list")) dNil))) (dCB rdIsi (dCons (dV 0) (dCons (dC (.ty "list")) dNil))))) (sRet (dC (.bl false))) sNx) (sSeq (sIf (dB (dOp rdNe (dCB rdLen (dCons (dV 0) dNil)) (dCB rdLen (dCons (dV 1) dNil)))) (sRet (dC (.bl false))) sNx) (sRet (dCB rdAll (dCons (dLc (iR1 (dCons (dCB rdLen (dCons (dV 1) dNil)) dNil)) (gN 3) dYes (dCall sp [] (dCons (dOp rdIx (dV 0) (dV 3)) (dCons (dOp rdIx (dV 1) (dV 3)) dNil))) [3]) dNil)))))))))))
/-- both are told of by their types -/
theorem rng_get (n : Nat) (i : Nat) (y : D) (h : (iL (rngL 0 n))[i]? = some y) : i < n ∧ y = .int (i : Int) := by
  unfold rngL at h
  rw [iL_get, List.getElem?_map] at h
  cases e : (List.range n)[i]? with
  | none => rw [e] at h; cases h
  | some j =>
    rw [e] at h
    have hi := (List.getElem?_eq_some_iff.mp e).1
    rw [List.length_range] at hi
    rw [List.getElem?_range hi] at e
    cases e
    refine ⟨hi, ?_⟩
    have h' : D.int (0 + (i : Int)) = y := by simpa using h
    rw [← h', Int.zero_add]
theorem rng_len (n : Nat) : (iL (rngL 0 n)).length = n := by rw [iL_len]; unfold rngL; rw [List.length_map, List.length_range]
def boolD : D → Bool
  | .bl b => b
  | _ => false
theorem law_equal_lc {sp : DSp} {m : Nat} (hsp : ∀ xs M X k, sp_law_equal m xs M X k → sp xs M X k) {x y : D} {xs ys : List D} (sx : ∀ M, seqOf x M = some xs) (sy : ∀ M, seqOf y M = some ys) (hlen : xs.length = ys.length) (hl : ys.length < 16777216) (hxs : ∀ d ∈ xs, Pz m d) (hys : ∀ d ∈ ys, Pz m d)
    {M : MS} (hM : ∀ c ∈ M, ClnC c) {X : EK} {P : D → MS → Prop} (fin : ∀ b : Bool, (b = true ↔ xs = ys) → P (.bl b) M) :
    LcB [some x, some y, none, none] [3] (gN 3) dYes (dCall sp [] (dCons (dOp rdIx (dV 0) (dV 3)) (dCons (dOp rdIx (dV 1) (dV 3)) dNil))) X (fun x M1 => rdAll [x] M1 fun z => P z M1) (iL (rngL 0 ys.length)) M := by
  refine lc_all (fun y z => ∃ (b : Bool) (i : Nat), y = .int (i : Int) ∧ z = .bl b ∧ ∀ d e, xs[i]? = some d → ys[i]? = some e → (b = true ↔ d = e)) hM (by rw [rng_len, sizeLine_val]; exact hl) (fun y z ⟨b, i, _, e, _⟩ => e ▸ .bl b) ?_ ?_
  · intro v hv acc hacc Q hQ
    obtain ⟨i, hi⟩ := List.mem_iff_getElem?.mp hv
    obtain ⟨hin, rfl⟩ := rng_get _ _ _ hi
    walk_at "ev"
    have ex : xs[i]? = some xs[i] := List.getElem?_eq_getElem (by omega)
    have ey : ys[i]? = some ys[i] := List.getElem?_eq_getElem (by omega)
    refine ⟨xs, sx _, xs[i], by rw [atD_nat, ex], ys, sy _, ys[i], by rw [atD_nat, ey], ?_⟩
    refine hsp _ _ _ _ ⟨_, _, rfl, hxs _ (List.getElem_mem _), hys _ (List.getElem_mem _), clnC_app hM ?_, fun b hb => hQ _ ⟨b, i, rfl, rfl, fun d e hd he => ?_⟩⟩
    · exact hacc
    · rw [ex] at hd; rw [ey] at he; cases hd; cases he; exact hb
  · intro zs hz hR
    rw [rng_len] at hz
    have hb : ∀ i (h : i < zs.length), ∃ b : Bool, zs[i] = .bl b ∧ ∀ d e, xs[i]? = some d → ys[i]? = some e → (b = true ↔ d = e) := fun i h => by
      have e1 : (iL (rngL 0 ys.length))[i]? = some (.int (i : Int)) := by
        have e2 : (iL (rngL 0 ys.length))[i]? = some ((iL (rngL 0 ys.length))[i]'(by rw [rng_len]; omega)) := List.getElem?_eq_getElem _
        rw [e2, (rng_get _ _ _ e2).2]
      obtain ⟨b, j, e2, e3, e4⟩ := hR i _ _ e1 (List.getElem?_eq_getElem h)
      injection e2 with e2
      have : j = i := by omega
      subst this
      exact ⟨b, e3, e4⟩
    refine ⟨_, zs.map boolD, rfl, ?_, fin _ ?_⟩
    · rw [lstOf_lst, List.map_map]
      congr 1
      refine List.ext_getElem? fun i => ?_
      rw [List.getElem?_map]
      by_cases h : i < zs.length
      · obtain ⟨b, e, _⟩ := hb i h
        rw [List.getElem?_eq_getElem h, e]
        rfl
      · rw [List.getElem?_eq_none (by omega)]; rfl
    · rw [List.all_eq_true]
      constructor
      · intro h
        refine List.ext_getElem? fun i => ?_
        by_cases hi : i < zs.length
        · obtain ⟨b, e, e4⟩ := hb i hi
          have h2 := h b (List.mem_map.mpr ⟨_, List.getElem_mem hi, by rw [e]; rfl⟩)
          rw [List.getElem?_eq_getElem (by omega), List.getElem?_eq_getElem (by omega)]
          rw [(e4 _ _ (List.getElem?_eq_getElem (by omega)) (List.getElem?_eq_getElem (by omega))).mp h2]
        · rw [List.getElem?_eq_none (by omega), List.getElem?_eq_none (by omega)]
      · rintro rfl b hbm
        obtain ⟨d, hd, rfl⟩ := List.mem_map.mp hbm
        obtain ⟨i, hi, rfl⟩ := List.mem_iff_getElem.mp hd
        obtain ⟨b, e, e4⟩ := hb i hi
        rw [e]
        exact (e4 _ _ (List.getElem?_eq_getElem (by omega)) (List.getElem?_eq_getElem (by omega))).mpr rfl
theorem pure_law_equal (sp : DSp) (n : Nat) (hn : n ≤ 30) (hsp : ∀ xs M X k, (∃ m, n = m + 1 ∧ sp_law_equal m xs M X k) → sp xs M X k) : ∀ ys M X P, sp_law_equal n ys M X P → d_law_equal sp (startD 4 ys) M (bodyN M.length X P) := by
  rintro ys M X P ⟨x, y, rfl, hx, hy, hM, q⟩
  have tx := hx.tyl M
  have ty := hy.tyl M
  have fin : ∀ b : Bool, (b = true ↔ x = y) → Ret P M.length (.bl b) M := fun b h => .same (q b h)
  have E := rdEq_z hx hy hn M
  unfold d_law_equal
  walk_at "ev"
  rw [rdIs_n]
  cases hy with
  | non =>
    cases hx <;> (simp [rdIs_n, D.isN]; exact fin _ (by simp))
  | bl _ b =>
    cases hx <;> (simp [rdIs_n, D.isN, tyN, isB, tyL, E, eqD_bl]; exact fin _ (by simp))
  | int _ b =>
    cases hx <;> (simp [rdIs_n, D.isN, tyN, isB, tyL, E, eqD_int]; exact fin _ (by simp))
  | str _ b hb =>
    cases hx <;> (simp [rdIs_n, D.isN, tyN, isB, tyL, E, eqD_str]; exact fin _ (by simp))
  | lst m ys hys hl =>
    cases hx with
    | lst _ xs hxs hl2 =>
      simp [rdIs_n, D.isN, tyN, isB, tyL, rdNe_b, eqOk_bl, cellD_bl, eqD_bl, seqOf_lst]
      have fin2 : ∀ b : Bool, (b = true ↔ xs = ys) → Ret P M.length (.bl b) M := fun b h => fin b (by rw [h]; simp)
      by_cases h : (xs.length : Int) = (ys.length : Int)
      · rw [if_pos h]
        exact ⟨by omega, law_equal_lc (fun _ _ _ _ h => hsp _ _ _ _ ⟨m, rfl, h⟩) (fun _ => rfl) (fun _ => rfl) (by omega) hl hxs hys hM fin2⟩
      · rw [if_neg h]
        exact fin2 false ⟨fun e => (nomatch e), fun e => absurd (congrArg (fun l : List D => (l.length : Int)) e) h⟩
    | _ => simp [rdIs_n, D.isN, tyN, isB, tyL, rdNe_b, eqOk_bl, cellD_bl, eqD_bl]; exact fin false (by simp)
  | tup m ys hys hl =>
    cases hx with
    | tup _ xs hxs hl2 =>
      simp [rdIs_n, D.isN, tyN, isB, tyL, rdNe_b, eqOk_bl, cellD_bl, eqD_bl, seqOf_tup]
      have fin2 : ∀ b : Bool, (b = true ↔ xs = ys) → Ret P M.length (.bl b) M := fun b h => fin b (by rw [h]; simp)
      by_cases h : (xs.length : Int) = (ys.length : Int)
      · rw [if_pos h]
        exact ⟨by omega, law_equal_lc (fun _ _ _ _ h => hsp _ _ _ _ ⟨m, rfl, h⟩) (fun _ => rfl) (fun _ => rfl) (by omega) hl hxs hys hM fin2⟩
      · rw [if_neg h]
        exact fin2 false ⟨fun e => (nomatch e), fun e => absurd (congrArg (fun l : List D => (l.length : Int)) e) h⟩
    | _ => simp [rdIs_n, D.isN, tyN, isB, tyL, rdNe_b, eqOk_bl, cellD_bl, eqD_bl]; exact fin false (by simp)
abbrev spEq : DSp := sp_law_equal 4
/-! ### _law_game -/
theorem rng_get2 (lo : Int) (n : Nat) (i : Nat) (y : D) (h : (iL (rngL lo n))[i]? = some y) : i < n ∧ y = .int (lo + (i : Int)) := by
  unfold rngL at h
  rw [iL_get, List.getElem?_map] at h
  cases e : (List.range n)[i]? with
  | none => rw [e] at h; cases h
  | some j =>
    rw [e] at h
    have hi := (List.getElem?_eq_some_iff.mp e).1
    rw [List.length_range] at hi
    rw [List.getElem?_range hi] at e
    cases e
    exact ⟨hi, by simpa using h.symm⟩
theorem rng_len2 (lo : Int) (n : Nat) : (iL (rngL lo n)).length = n := by rw [iL_len]; unfold rngL; rw [List.length_map, List.length_range]
theorem rdEq_l (a b : List Int) (M : MS) (k : D → Prop) (h : k (.bl (decide (a = b)))) : rdEq (.lst (PD.iL a)) (.lst (PD.iL b)) M k := by
  refine ⟨eqOkOf (n := 1) (.lst 0 _ fun x hx => (Pz.iL 0 x hx).pl) (by decide), eqOkOf (n := 1) (.lst 0 _ fun x hx => (Pz.iL 0 x hx).pl) (by decide), ?_⟩
  rw [cellD_lst, cellD_lst, eqD_lL]
  exact h
theorem last_get {M : MS} {c : Cell} : (M ++ [c])[M.length]? = some c := by
  rw [List.getElem?_append_right (Nat.le_refl _), Nat.sub_self]; rfl
theorem last_set {M : MS} {c d : Cell} : (M ++ [c]).set M.length d = M ++ [d] := by
  rw [List.set_append_right _ _ (Nat.le_refl _), Nat.sub_self]; rfl
theorem iL_app (a b : List Int) : iL a ++ iL b = iL (a ++ b) := by unfold iL; rw [List.map_append]
abbrev sp_law_game (cG : Addr) : DSp := fun xs M X k => ∃ j m, xs = [.ptr j, .int m] ∧ M[j]? = some .rng ∧ 3 ≤ m ∧ m ≤ 12 ∧ (∀ c ∈ M, ClnC c) ∧ ∀ n s ws, GOk n s ws → n ≤ m → k (.gm n s ws) M
abbrev d_law_game (cG : Addr) : DS := (sSeq (sPar 2 3 (dCons (dOp rdAdd (dI 2) (dCall sp_law_below [] (dCons (dV 0) (dCons (dOp rdSub (dV 1) (dI 1)) dNil)))) (dCons (dOp rdAdd (dI 2) (dCall sp_law_below [] (dCons (dV 0) (dCons (dCall sp_law_pick [] (dCons (dV 0) (dCons (dLst (dCons (dI 2) (dCons (dI 4) (dCons (dI 8) dNil)))) dNil))) dNil)))) dNil))) (sSeq (sAsg (dNewL dNil) (gN 4)) (sSeq (sFor (iR2 (dCons (dI 1) (dCons (dV 2) dNil))) (gN 5) (sIf (dAnd (dB (dOp rdLt (dCB rdLen (dCons (dV 4) dNil)) (dOp rdSub (dV 3) (dI 1)))) (dB (dOp rdEq (dCall sp_law_below [] (dCons (dV 0) (dCons (dI 3) dNil))) (dI 0)))) (sDrop (dApp (dV 4) (dV 5))) sNx)) (sSeq (sFrz 4 (sIf (dB (dOp rdEq (dV 4) (dLst dNil))) (sAsg (dLst (dCons (dOp rdAdd (dI 1) (dCall sp_law_below [] (dCons (dV 0) (dCons (dOp rdSub (dV 2) (dI 1)) dNil)))) dNil)) (gN 4)) sNx)) (sRet (dMake cG (sp_Game_init cG) (dCons (dV 2) (dCons (dV 3) (dCons (dCB rdTup (dCons (dV 4) dNil)) dNil))) (finG cG)))))))
--  6 ['_law_d', '_law_most', '_law_children_so', '_law_parts_so', '_law_steps_so', '_law_step']
theorem pure_law_game (cG : Addr) : ∀ ys M X P, sp_law_game cG ys M X P → d_law_game cG (startD 6 ys) M (bodyN M.length X P) := by
  rintro ys M X P ⟨j, m, rfl, hj, hm3, hm12, hM, q⟩
  have hlt : j < M.length := (List.getElem?_eq_some_iff.mp hj).1
  unfold d_law_game
  walk_at "ev"
  refine ⟨j, m - 1, rfl, hj, by omega, by omega, fun r hr0 hr1 => ?_⟩
  walk_at "ev"
  refine ⟨by decide, j, _, [.int 2, .int 4, .int 8], rfl, rfl, hj, by simp, by decide, fun y hy => ?_⟩
  have hy2 : ∃ c, y = .int c ∧ 2 ≤ c ∧ c ≤ 8 := by
    simp at hy
    rcases hy with rfl | rfl | rfl
    · exact ⟨2, rfl, by decide⟩
    · exact ⟨4, rfl, by decide⟩
    · exact ⟨8, rfl, by decide⟩
  obtain ⟨c, rfl, hc2, hc8⟩ := hy2
  refine ⟨j, c, rfl, hj, by omega, by omega, fun t ht0 ht1 => ?_⟩
  walk_at "ev"
  refine ⟨by decide, by decide, by decide, by omega, by omega, ?_⟩
  -- the loop
  refine for_inv (fun i g1 M1 => ∃ ws a, g1 = [some (.ptr j), some (.int m), some (.int (2 + r)), some (.int (2 + t)), some (.ptr M.length), a] ∧ M1 = M ++ [.lst (iL ws)] ∧ (ws.length : Int) ≤ 1 + t ∧ (∀ w ∈ ws, 1 ≤ w ∧ w ≤ (i : Int)) ∧ ∀ (i : Nat) (a b : Int), ws[i]? = some a → ws[i + 1]? = some b → a < b)
    ⟨[], none, rfl, rfl, by simp; omega, by simp, by simp⟩ ?_ ?_
  · rintro i y g1 M1 e ⟨ws, a, rfl, rfl, h1, h2, h3⟩
    obtain ⟨hi, rfl⟩ := rng_get2 _ _ _ _ e
    walk_at "ev"
    refine ⟨_, seqOf_ptr last_get, ?_⟩
    walk_at "ev"
    have step : ∃ ws' : List Int, M ++ [Cell.lst (iL ws)] = M ++ [.lst (iL ws')] ∧ (ws'.length : Int) ≤ 1 + t ∧ (∀ w ∈ ws', 1 ≤ w ∧ w ≤ ((i + 1 : Nat) : Int)) ∧ ∀ (i : Nat) (a b : Int), ws'[i]? = some a → ws'[i + 1]? = some b → a < b :=
      ⟨ws, rfl, h1, fun w hw => ⟨(h2 w hw).1, by have := (h2 w hw).2; omega⟩, h3⟩
    by_cases hl : (ws.length : Int) < 2 + t - 1
    · rw [decide_eq_true hl]
      walk_at "ev"
      refine ⟨j, 3, rfl, get_app hj, by decide, by decide, fun z hz0 hz3 => ?_⟩
      walk_at "ev"
      by_cases hz : z = 0
      · rw [decide_eq_true hz]
        walk_at "ev"
        refine ⟨⟨_, last_get⟩, _, last_get, by rw [iL_len, sizeLine_val]; omega, ws ++ [1 + (i : Int)], by rw [last_set, ← iL_app]; rfl, by rw [List.length_append, List.length_singleton]; omega, ?_, ?_⟩
        · intro w hw
          rcases List.mem_append.mp hw with q | q
          · have := h2 w q; omega
          · rw [List.mem_singleton] at q; omega
        · intro k a b ea eb
          by_cases hk : k + 1 < ws.length
          · rw [List.getElem?_append_left (by omega)] at ea
            rw [List.getElem?_append_left hk] at eb
            exact h3 k a b ea eb
          · have hk2 := (List.getElem?_eq_some_iff.mp eb).1
            rw [List.length_append, List.length_singleton] at hk2
            rw [List.getElem?_append_right (by omega), show k + 1 - ws.length = 0 by omega] at eb
            rw [List.getElem?_append_left (by omega)] at ea
            have := h2 a (List.mem_of_getElem? ea)
            simp at eb
            omega
      · rw [decide_eq_false hz]
        walk_at "ev"
        exact step
    · rw [decide_eq_false hl]
      walk_at "ev"
      exact step
  · rintro g1 M1 ⟨ws, a, rfl, rfl, h1, h2, h3⟩
    rw [rng_len2] at h2
    walk_at "ev"
    refine ⟨_, last_get, ?_⟩
    rw [last_set]
    refine ⟨by decide, rdEq_l ws [] _ _ ?_⟩
    walk_at "ev"
    have fin : ∀ ws' : List Int, GOk (2 + r) (2 + t) ws' → sp_Game_init cG [D.ptr (M ++ [Cell.dead]).length, .int (2 + r), .int (2 + t), .tup (iL ws')] (M ++ [Cell.dead] ++ [Cell.ins cG []])
        (fun e M2 => (∃ x, M2 = M ++ [Cell.dead] ++ [Cell.ins cG x]) ∧ (∀ (c : Cell), c ∈ M ++ [Cell.dead] → ClnC c) ∧ (∀ (f : Str) (y : D), e.fld = some (f, y) → Cln y) ∧ RetX X (List.length M) e (M ++ [Cell.dead]))
        (fun y M2 => y = D.non ∧ ∃ n s ws, M2 = M ++ [Cell.dead] ++ [Cell.ins cG (gmF n s ws)] ∧ (∀ (c : Cell), c ∈ M ++ [Cell.dead] → ClnC c) ∧ Ret P (List.length M) (D.gm n s ws) (M ++ [Cell.dead])) := fun ws' ok => by
      have hM2 : ∀ c ∈ M ++ [Cell.dead], ClnC c := clnC_app hM trivial
      refine ⟨_, _, _, _, rfl, last_get, by simp [tyN, tyL], by simp [tyN, tyL], by simp [tyN, tyL], fun ys e d hd => ?_, fun e he => ?_, fun n s ws2 e1 e2 e3 ok2 => ?_⟩
      · injection e with e; subst e
        obtain ⟨i, _, rfl⟩ := List.mem_map.mp hd
        simp [tyN, tyL]
      · rw [gameErr_none ok] at he; cases he
      · injection e1 with e1; injection e2 with e2; injection e3 with e3
        have e3 := iL_inj e3
        subst e1 e2 e3
        refine ⟨rfl, _, _, _, last_set, hM2, .drop rfl (Nat.le_refl _) hM (.gm _ _ _) (q _ _ _ ok2 (by omega))⟩
    by_cases hws : ws = []
    · subst hws
      walk_at "ev"
      refine ⟨j, _, rfl, get_app hj, by omega, by omega, fun z hz0 hz1 => ?_⟩
      walk_at "ev"
      refine ⟨by decide, _, _, rfl, rfl, fin [1 + z] ⟨by omega, by omega, by omega, by omega, by simp, by simp; omega, fun w hw => ?_, fun i a b ea eb => ?_⟩⟩
      · simp at hw; omega
      · simp at eb
    · rw [decide_eq_false hws]
      walk_at "ev"
      refine ⟨_, _, rfl, rfl, fin ws ⟨by omega, by omega, by omega, by omega, ?_, by omega, fun w hw => ?_, h3⟩⟩
      · have := List.length_pos_iff.mpr hws; omega
      · have := h2 w hw; omega
end Sw

namespace Sw
open PySem PySem.Spec PyProof.Rows L2 PD
local macro_rules | `(tactic| walk_at "ev") => `(tactic| simp only [sSeq, sAsg, sRet, sRetN, sIf, sDrop, sNx, sPar, sPar3, gN, gT, gsCons, gsNil, dV, dC, dI, dOp, dUn, dCh, dB, dAnd, dOr, dNot, dAndV, dOrV, dNotV, dIf, dNil, dCons, dTup, dLst, dCB, dCall, dSetLen, sTry, hdlD, dkRun, dkCls, dI0, dI2, rdLen, rdIsi, rdIsiT, rdIx, dGet_eq, rdGet_size, rdGet_share, rdGet_ways,
  sFor_eq, dLc_eq, iTp, iLs, iSc, iR1, iR2, iEnT, iEnL, iEnS, wipeD_nil, wipeD_cons, sOpen, dShut, sBrk, sCnt, sNever, dNeg, dPart, dNoPart, dSl, sAug, sSetL, dApp, dPopAt, dNewL, dNewCat, dToRng, sPut, dMake, finG, sRaise0, sRaise1, sFrz, dNewRep, dNewList, dPop, dStar, dUn,
  rdEq_i, rdNe_i, sI_2, ixN_0, ixN_1, Cell.lst.injEq, rdInt_i, rdInt_b, rdAbs_i, rdMax2_i, eqD_int, eqOk_int, cellD_int, eqD_bl, eqOk_bl, cellD_bl, eqOk_non, seqOf_lst, seqOf_tup, lstOf_lst, atD_0, atD_1, atD_2, List.set_set, cellD_lst, cellD_tup, iL_cons, iL_nil, iL_len,
  startD, bodyN, List.map_cons, List.map_nil, List.length_cons, List.length_nil, List.replicate_succ, List.replicate_zero, List.cons_append, List.nil_append, List.append_nil, List.getElem?_cons_zero, List.getElem?_cons_succ, List.set_cons_zero, List.set_cons_succ, Nat.reduceSub, Nat.reduceAdd, Nat.zero_add,
  Option.some.injEq, exists_eq_left', exists_eq_left, D.int.injEq, D.bl.injEq, D.lst.injEq, D.tup.injEq, D.str.injEq, D.ptr.injEq, D.scr.injEq, D.gm.injEq, List.cons.injEq, and_true, true_and, exists_and_left, exists_and_right, D.ty.injEq, and_assoc, ↓reduceIte, eq_self, Bool.not_true, Bool.not_false, Bool.false_eq_true, decide_true, decide_false])
/-! SwC: the rounds. -/
def SwOk (n : Int) (l : List Int) : Prop := (l.length : Int) = n ∧ ∀ x ∈ l, 0 ≤ x ∧ x ≤ 10 ^ 30
def firstBadS (ys : List D) : Option Nat := (List.range ys.length).find? fun i => !isFrom (ys.getD i .non) 0 1000000000000000000000000000000
def sweetsErr (n : Int) (x : D) : Option Exn := match x with
  | .tup ys => if (ys.length : Int) = n then (firstBadS ys).map (fun (i : Nat) => (⟨"BadSweets", some ("index", .int (i : Int))⟩ : Exn)) else some ⟨"BadSweets", some ("index", .non)⟩
  | _ => some ⟨"BadSweets", some ("index", .non)⟩
theorem sweetsErr_none {n : Int} {l : List Int} (h : SwOk n l) : sweetsErr n (.tup (iL l)) = none := by
  unfold sweetsErr
  dsimp only
  rw [if_pos (by rw [iL_len]; exact h.1)]
  have : firstBadS (iL l) = none := find_none fun j hj => by
    rw [iL_len] at hj
    have e : (iL l)[j]? = some (.int l[j]) := by rw [iL_get, List.getElem?_eq_getElem hj]; rfl
    have h1 : isFrom (.int l[j]) 0 1000000000000000000000000000000 = true := isFrom_i (h.2 _ (List.getElem_mem hj))
    rw [getD_of e, h1]
    rfl
  rw [this]
  rfl
theorem sweetsErr_ok {n : Int} {x : D} (h : sweetsErr n x = none) : ∃ l, x = .tup (iL l) ∧ SwOk n l := by
  unfold sweetsErr at h
  split at h
  · rename_i ys
    split at h
    · rename_i h1
      have hb : ∀ j, j < ys.length → isFrom (ys.getD j .non) 0 1000000000000000000000000000000 = true := by
        have : firstBadS ys = none := by
          cases e : firstBadS ys with
          | none => rfl
          | some i => exfalso; rw [e] at h; cases h
        unfold firstBadS at this
        rw [List.find?_range_eq_none] at this
        intro j hj
        simpa using this j hj
      have hint : ∀ (j : Nat) (d : D), ys[j]? = some d → ∃ i, d = .int i ∧ 0 ≤ i ∧ i ≤ 1000000000000000000000000000000 := fun j d e => by
        have := hb j (List.getElem?_eq_some_iff.mp e).1
        rw [getD_of e] at this
        exact isFrom_int this
      refine ⟨ys.map intD, ?_, by rw [List.length_map]; exact h1, fun x hx => ?_⟩
      · congr 1
        unfold iL
        rw [List.map_map]
        refine List.ext_getElem? fun j => ?_
        rw [List.getElem?_map]
        cases e : ys[j]? with
        | none => rfl
        | some d => obtain ⟨i, rfl, _⟩ := hint j d e; rfl
      · obtain ⟨d, hd, rfl⟩ := List.mem_map.mp hx
        obtain ⟨j, hj⟩ := List.mem_iff_getElem?.mp hd
        obtain ⟨i, rfl, h⟩ := hint j d hj
        exact h
    · cases h
  · cases h
/-- every type is told -/
def TyOk (M : MS) (x : D) : Prop := tyN x M ∈ tyL ∧ ∀ ys, x = .tup ys → ∀ d ∈ ys, tyN d M ∈ tyL
theorem tyOk_tL (M : MS) (l : List Int) : TyOk M (.tup (iL l)) := ⟨by simp [tyN, tyL], fun ys e d hd => by
  injection e with e; subst e
  obtain ⟨i, _, rfl⟩ := List.mem_map.mp hd
  simp [tyN, tyL]⟩
theorem isB_tup {x : D} {M : MS} : (∃ ys, x = .tup ys) ∨ isB (tyN x M) "tuple" = false := by
  cases x with
  | tup ys => exact .inl ⟨ys, rfl⟩
  | ptr k =>
    right
    unfold tyN
    dsimp only
    split <;> rfl
  | _ => exact .inr rfl
abbrev sp_check_sweets : DSp := fun xs M X k => ∃ n s ws x, xs = [.gm n s ws, x] ∧ TyOk M x ∧ (∀ e, sweetsErr n x = some e → X e M) ∧ (sweetsErr n x = none → k .non M)
abbrev d_check_sweets : DS := (sSeq (sIf (dOr (dNot (dB (dCB rdIsi (dCons (dV 1) (dCons (dC (.ty "tuple")) dNil))))) (dB (dOp rdNe (dCB rdLen (dCons (dV 1) dNil)) (dGet "size" (dV 0))))) (sRaise1 "BadSweets" "index" (dC .non)) sNx) (sFor (iEnT (dCons (dV 1) dNil)) (gT 2 (gsCons (gN 2) (gsCons (gN 3) gsNil))) (sIf (dNot (dB (dCall sp_is_from [] (dCons (dV 3) (dCons (dI 0) (dCons (dI 1000000000000000000000000000000) dNil)))))) (sRaise1 "BadSweets" "index" (dV 2)) sNx)))
--  4 ['game', 'sweets', 'index', 'number']
theorem pure_check_sweets : ∀ ys M X P, sp_check_sweets ys M X P → d_check_sweets (startD 4 ys) M (bodyN M.length X P) := by
  rintro ys M X P ⟨n, s, ws, x, rfl, ⟨hx, hxs⟩, hE, hK⟩
  unfold d_check_sweets
  walk_at "ev"
  refine ⟨hx, by decide, ?_⟩
  rcases isB_tup (x := x) (M := M) with ⟨zs, rfl⟩ | e1
  · rw [show isB (tyN (.tup zs) M) "tuple" = true from rfl]
    walk_at "ev"
    unfold sweetsErr at hE hK
    dsimp only at hE hK
    by_cases h1 : (zs.length : Int) = n
    · rw [decide_eq_true h1]
      walk_at "ev"
      rw [if_pos h1] at hE hK
      refine for_inv (fun i g M' => M' = M ∧ (∃ a b, g = [some (.gm n s ws), some (.tup zs), a, b]) ∧ ∀ m, m < i → isFrom (zs.getD m .non) 0 1000000000000000000000000000000 = true) ⟨rfl, ⟨none, none, rfl⟩, fun m h => by omega⟩ ?_ ?_
      · rintro i y g1 M1 e ⟨rfl, ⟨a, b, rfl⟩, hbad⟩
        obtain ⟨d, ed, rfl⟩ := enumD_inv e
        have hi := (List.getElem?_eq_some_iff.mp ed).1
        walk_at "ev"
        refine ⟨d, 0, _, rfl, hxs _ rfl d (List.mem_of_getElem? ed), ?_⟩
        cases ed1 : isFrom d 0 1000000000000000000000000000000 with
        | false =>
          walk_at "ev"
          refine .same (hE _ ?_)
          unfold firstBadS
          rw [find_lt (fun j hj => by rw [hbad j hj]; rfl) (by rw [getD_of ed, ed1]; rfl) hi]
          rfl
        | true =>
          walk_at "ev"
          refine ⟨⟨_, rfl⟩, fun m hm => ?_⟩
          by_cases hm2 : m = i
          · subst hm2; rw [getD_of ed]; exact ed1
          · exact hbad m (by omega)
      · rintro g1 M1 ⟨rfl, ⟨a, b, rfl⟩, hbad⟩
        rw [enumD_len] at hbad
        refine .same (hK ?_)
        have : firstBadS zs = none := find_none fun j hj => by rw [hbad j hj]; rfl
        rw [this]
        rfl
    · rw [decide_eq_false h1]
      walk_at "ev"
      rw [if_neg h1] at hE
      exact .same (hE _ rfl)
  · rw [e1]
    walk_at "ev"
    refine .same (hE _ ?_)
    cases x with
    | tup zs => cases e1
    | _ => rfl
def fillN (s x : Int) : Int := (x + s - 1) / s * s
def fillL (s : Int) (l : List Int) : List Int := l.map (fillN s)
abbrev sp_filled_by : DSp := fun xs M X k => ∃ n s ws l, xs = [.gm n s ws, .tup (iL l)] ∧ 2 ≤ s ∧ s ≤ 9 ∧ l.length < 16777216 ∧ (∀ c ∈ M, ClnC c) ∧ k (.tup (iL (fillL s l))) M
abbrev d_filled_by : DS := (sRet (dCB rdTup (dCons (dLc (iTp (dV 1)) (gN 2) dYes (dOp rdMul (dOp rdDiv (dOp rdSub (dOp rdAdd (dV 2) (dGet "share" (dV 0))) (dI 1)) (dGet "share" (dV 0))) (dGet "share" (dV 0))) [2]) dNil)))
--  3 ['game', 'sweets', 'number']
theorem pure_filled_by : ∀ ys M X P, sp_filled_by ys M X P → d_filled_by (startD 3 ys) M (bodyN M.length X P) := by
  rintro ys M X P ⟨n, s, ws, l, rfl, h2, h9, hl, hM, q⟩
  unfold d_filled_by
  walk_at "ev"
  refine lc_map (fun y => .int (fillN s (intD y))) hM (by rw [iL_len, sizeLine_val]; exact hl) (fun y hy => .int _) ?_ ?_
  · intro y hy acc _ Q hQ
    obtain ⟨c, _, rfl⟩ := List.mem_map.mp hy
    walk_at "ev"
    exact ⟨divB2 (by omega) (by omega), mulB (by omega), hQ⟩
  · refine ⟨_, _, rfl, rfl, ?_⟩
    have e : (iL l).map (fun y => D.int (fillN s (intD y))) = iL (fillL s l) := by
      unfold iL fillL
      rw [List.map_map, List.map_map]
      rfl
    rw [e]
    exact .same q
end Sw

namespace Sw
open PySem PySem.Spec PyProof.Rows L2 PD
local macro_rules | `(tactic| walk_at "ev") => `(tactic| simp only [sSeq, sAsg, sRet, sRetN, sIf, sDrop, sNx, sPar, sPar3, gN, gT, gsCons, gsNil, dV, dC, dI, dOp, dUn, dCh, dB, dAnd, dOr, dNot, dAndV, dOrV, dNotV, dIf, dNil, dCons, dTup, dLst, dCB, dCall, dSetLen, sTry, hdlD, dkRun, dkCls, dI0, dI2, rdLen, rdIsi, rdIsiT, rdIx, dGet_eq, rdGet_size, rdGet_share, rdGet_ways,
  sFor_eq, dLc_eq, iTp, iLs, iSc, iR1, iR2, iEnT, iEnL, iEnS, wipeD_nil, wipeD_cons, sOpen, dShut, sBrk, sCnt, sNever, dNeg, dPart, dNoPart, dSl, sAug, sSetL, dApp, dPopAt, dNewL, dNewCat, dToRng, sPut, dMake, finG, sRaise0, sRaise1, sFrz, dNewRep, dNewList, dPop, dStar, dUn,
  rdEq_i, rdNe_i, sI_2, ixN_0, ixN_1, Cell.lst.injEq, rdInt_i, rdInt_b, rdAbs_i, rdMax2_i, eqD_int, eqOk_int, cellD_int, eqD_bl, eqOk_bl, cellD_bl, eqOk_non, seqOf_lst, seqOf_tup, lstOf_lst, atD_0, atD_1, atD_2, List.set_set, cellD_lst, cellD_tup, iL_cons, iL_nil, iL_len,
  startD, bodyN, List.map_cons, List.map_nil, List.length_cons, List.length_nil, List.replicate_succ, List.replicate_zero, List.cons_append, List.nil_append, List.append_nil, List.getElem?_cons_zero, List.getElem?_cons_succ, List.set_cons_zero, List.set_cons_succ, Nat.reduceSub, Nat.reduceAdd, Nat.zero_add,
  Option.some.injEq, exists_eq_left', exists_eq_left, D.int.injEq, D.bl.injEq, D.lst.injEq, D.tup.injEq, D.str.injEq, D.ptr.injEq, D.scr.injEq, D.gm.injEq, List.cons.injEq, and_true, true_and, exists_and_left, exists_and_right, D.ty.injEq, and_assoc, ↓reduceIte, eq_self, Bool.not_true, Bool.not_false, Bool.false_eq_true, decide_true, decide_false])
/-! SwD: passed, after, end, lacking. -/
def ixI (l : List Int) (i : Int) : Int := match ixN l.length i with
  | some j => l.getD j 0
  | none => 0
theorem atD_iL {l : List Int} {i : Int} (h0 : -(l.length : Int) ≤ i) (h1 : i < l.length) : atD (iL l) i = some (.int (ixI l i)) := by
  have key : ∃ j, ixN l.length i = some j ∧ j < l.length := by
    unfold ixN
    by_cases h : 0 ≤ i
    · rw [if_pos h, if_pos h1]; exact ⟨_, rfl, by omega⟩
    · rw [if_neg h, if_pos h0]; exact ⟨_, rfl, by omega⟩
  obtain ⟨j, e, hj⟩ := key
  unfold atD ixI
  rw [iL_len, e]
  show (iL l)[j]? = _
  rw [iL_get, List.getElem?_eq_getElem hj]
  show Option.map D.int (some l[j]) = some (.int (l.getD j 0))
  rw [List.getD_eq_getElem?_getD, List.getElem?_eq_getElem hj]
  rfl
theorem ixI_nat (l : List Int) (i : Nat) (h : i < l.length) : ixI l (i : Int) = l.getD i 0 := by
  unfold ixI ixN
  rw [if_pos (by omega), if_pos (by omega)]
  rfl
def unitL (s : Int) (l : List Int) : List Int := l.map fun x => fillN s x / s
def passL (n s : Int) (ws l : List Int) : List Int := (rngL 0 n.toNat).map fun i => (s - (ws.length : Int)) * ixI (unitL s l) i + (ws.map fun w => ixI (unitL s l) (i - w)).sum
theorem passL_len (n s : Int) (ws l : List Int) : (passL n s ws l).length = n.toNat := by unfold passL rngL; simp
abbrev sp_passed : DSp := fun xs M X k => ∃ n s ws l, xs = [.gm n s ws, .tup (iL l)] ∧ GOk n s ws ∧ (l.length : Int) = n ∧ (∀ c ∈ M, ClnC c) ∧ k (.tup (iL (passL n s ws l))) M
abbrev d_passed : DS := (sSeq (sAsg (dLc (iTp (dCall sp_filled_by [] (dCons (dV 0) (dCons (dV 1) dNil)))) (gN 3) dYes (dOp rdDiv (dV 3) (dGet "share" (dV 0))) [3]) (gN 2)) (sSeq (sAsg (dOp rdSub (dGet "share" (dV 0)) (dCB rdLen (dCons (dGet "ways" (dV 0)) dNil))) (gN 4)) (sRet (dCB rdTup (dCons (dLc (iR1 (dCons (dGet "size" (dV 0)) dNil)) (gN 6) dYes (dOp rdAdd (dOp rdMul (dV 4) (dOp rdIx (dV 2) (dV 6))) (dCB rdSum (dCons (dLc (iTp (dGet "ways" (dV 0))) (gN 5) dYes (dOp rdIx (dV 2) (dOp rdSub (dV 6) (dV 5))) [5]) dNil))) [6]) dNil)))))
--  7 ['game', 'sweets', 'units', 'number', 'kept', 'step', 'at']
theorem map_iL (f : Int → Int) (g : D → D) (h : ∀ i, g (.int i) = .int (f i)) (l : List Int) : (iL l).map g = iL (l.map f) := by
  unfold iL
  rw [List.map_map, List.map_map]
  exact List.map_congr_left fun i _ => h i
theorem pure_passed : ∀ ys M X P, sp_passed ys M X P → d_passed (startD 7 ys) M (bodyN M.length X P) := by
  rintro ys M X P ⟨n, s, ws, l, rfl, ok, hl, hM, q⟩
  have hs2 := ok.s2
  have hs9 := ok.s9
  have hn12 := ok.n12
  have hn2 := ok.n2
  have hls := ok.ls
  unfold d_passed
  try walk_at "ev"
  refine ⟨n, s, ws, l, rfl, hs2, hs9, by omega, hM, ?_⟩
  try walk_at "ev"
  refine lc_map (fun y => .int (intD y / s)) hM (by rw [iL_len, sizeLine_val]; unfold fillL; rw [List.length_map]; omega) (fun y hy => .int _) ?_ ?_
  · intro y hy acc _ Q hQ
    obtain ⟨c, _, rfl⟩ := List.mem_map.mp hy
    try walk_at "ev"
    exact ⟨divB2 (by omega) (by omega), hQ⟩
  have eU : (iL (fillL s l)).map (fun y => D.int (intD y / s)) = iL (unitL s l) := by
    rw [map_iL (fun i => i / s) _ (fun i => rfl)]
    unfold fillL unitL
    rw [List.map_map]
    rfl
  have hU : (unitL s l).length = n.toNat := by unfold unitL; rw [List.length_map]; omega
  rw [eU]
  try walk_at "ev"
  refine ⟨by omega, by omega, ?_⟩
  refine lc_map (fun y => .int ((s - (ws.length : Int)) * ixI (unitL s l) (intD y) + (ws.map fun w => ixI (unitL s l) (intD y - w)).sum)) hM (by rw [rng_len, sizeLine_val]; omega) (fun y hy => .int _) ?_ ?_
  · intro y hy acc hacc Q hQ
    obtain ⟨i, hi⟩ := List.mem_iff_getElem?.mp hy
    obtain ⟨hin, rfl⟩ := rng_get _ _ _ hi
    try walk_at "ev"
    refine ⟨_, atD_iL (by rw [hU]; omega) (by rw [hU]; omega), ?_⟩
    try walk_at "ev"
    refine ⟨mulB' (by omega), ?_⟩
    refine lc_map (fun y => .int (ixI (unitL s l) (i - intD y))) (clnC_app hM hacc) (by rw [iL_len, sizeLine_val]; omega) (fun y hy => .int _) ?_ ?_
    · intro y hy acc2 _ Q2 hQ2
      obtain ⟨w, hw, rfl⟩ := List.mem_map.mp hy
      have hw2 := ok.w w hw
      try walk_at "ev"
      exact ⟨_, atD_iL (by rw [hU]; omega) (by rw [hU]; omega), hQ2⟩
    · rw [map_iL (fun w => ixI (unitL s l) (i - w)) _ (fun i => rfl)]
      refine ⟨_, _, rfl, seqOf_lst _ _, ?_⟩
      try walk_at "ev"
      exact hQ
  · refine ⟨_, _, rfl, rfl, ?_⟩
    rw [map_iL (fun i => (s - (ws.length : Int)) * ixI (unitL s l) i + (ws.map fun w => ixI (unitL s l) (i - w)).sum) _ (fun i => rfl)]
    exact .same q
def itP (n s : Int) (ws l : List Int) : Nat → List Int
  | 0 => l
  | t + 1 => passL n s ws (itP n s ws l t)
theorem itP_len {n s : Int} {ws l : List Int} (h : (l.length : Int) = n) (t : Nat) : ((itP n s ws l t).length : Int) = n := by
  cases t with
  | zero => exact h
  | succ t => show ((passL _ _ _ _).length : Int) = n; rw [passL_len]; omega
abbrev sp_after : DSp := fun xs M X k => ∃ n s ws x r, xs = [.gm n s ws, x, r] ∧ GOk n s ws ∧ TyOk M x ∧ tyN r M ∈ tyL ∧ (∀ c ∈ M, ClnC c) ∧ (∀ e, sweetsErr n x = some e → X e M) ∧ (sweetsErr n x = none → isFrom r 0 2000 = false → X ⟨"BadRounds", none⟩ M) ∧
  ∀ l m, x = .tup (iL l) → SwOk n l → r = .int m → 0 ≤ m → m ≤ 2000 → k (.tup (iL (itP n s ws l m.toNat))) M
abbrev d_after : DS := (sSeq (sDrop (dCall sp_check_sweets [] (dCons (dV 0) (dCons (dV 1) dNil)))) (sSeq (sIf (dNot (dB (dCall sp_is_from [] (dCons (dV 2) (dCons (dI 0) (dCons (dI 2000) dNil)))))) (sRaise0 "BadRounds") sNx) (sSeq (sAsg (dV 1) (gN 3)) (sSeq (sFor (iR1 (dCons (dV 2) dNil)) (gN 4) (sAsg (dCall sp_passed [] (dCons (dV 0) (dCons (dV 3) dNil))) (gN 3))) (sRet (dV 3))))))
--  5 ['game', 'sweets', 'rounds', 'found', 'lap']
theorem pure_after : ∀ ys M X P, sp_after ys M X P → d_after (startD 5 ys) M (bodyN M.length X P) := by
  rintro ys M X P ⟨n, s, ws, x, r, rfl, ok, hx, hr, hM, hE, hR, hK⟩
  unfold d_after
  try walk_at "ev"
  refine ⟨n, s, ws, x, rfl, hx, fun e he => .same (hE e he), fun he => ?_⟩
  obtain ⟨l, rfl, hl⟩ := sweetsErr_ok he
  try walk_at "ev"
  refine ⟨r, 0, 2000, rfl, hr, ?_⟩
  cases er : isFrom r 0 2000 with
  | false =>
    try walk_at "ev"
    exact .same (hR he er)
  | true =>
  obtain ⟨m, rfl, h0, h1⟩ := isFrom_int er
  try walk_at "ev"
  refine ⟨by omega, by omega, for_inv (fun i g M' => M' = M ∧ ∃ b, g = [some (.gm n s ws), some (.tup (iL l)), some (.int m), some (.tup (iL (itP n s ws l i))), b]) ⟨rfl, none, rfl⟩ ?_ ?_⟩
  · rintro i y g1 M1 e ⟨rfl, b, rfl⟩
    try walk_at "ev"
    refine ⟨n, s, ws, _, rfl, ok, itP_len hl.1 i, hM, ?_⟩
    try walk_at "ev"
    exact ⟨rfl, _, rfl⟩
  · rintro g1 M1 ⟨rfl, b, rfl⟩
    try walk_at "ev"
    rw [show (rngL 0 m.toNat).length = m.toNat by rw [← iL_len, rng_len]]
    exact .same (hK l m rfl hl rfl h0 h1)
abbrev sp_end : DSp := fun xs M X k => ∃ n s ws x, xs = [.gm n s ws, x] ∧ GOk n s ws ∧ TyOk M x ∧ (∀ c ∈ M, ClnC c) ∧ (∀ e, sweetsErr n x = some e → X e M) ∧
  ∀ l, x = .tup (iL l) → SwOk n l → ∃ T, itP n s ws l (T + 1) = itP n s ws l T ∧ (∀ t, t < T → itP n s ws l (t + 1) ≠ itP n s ws l t) ∧ k (.tup [.tup (iL (itP n s ws l T)), .int (T : Int), .int ((itP n s ws l T).sum - l.sum)]) M
abbrev d_end : DS := (sSeq (sDrop (dCall sp_check_sweets [] (dCons (dV 0) (dCons (dV 1) dNil)))) (sSeq (sPar3 2 3 4 (dCons (dI 0) (dCons (dV 1) (dCons (dCall sp_passed [] (dCons (dV 0) (dCons (dV 1) dNil))) dNil)))) (sSeq (sWhile (dB (dOp rdNe (dV 4) (dV 3))) (sPar3 2 3 4 (dCons (dOp rdAdd (dV 2) (dI 1)) (dCons (dV 4) (dCons (dCall sp_passed [] (dCons (dV 0) (dCons (dV 4) dNil))) dNil))))) (sRet (dTup (dCons (dV 3) (dCons (dV 2) (dCons (dOp rdSub (dCB rdSum (dCons (dCB rdList (dCons (dV 3) dNil)) dNil)) (dCB rdSum (dCons (dCB rdList (dCons (dV 1) dNil)) dNil))) dNil))))))))
--  5 ['game', 'sweets', 'rounds', 'now', 'later']
theorem pure_end : ∀ ys M X P, sp_end ys M X P → d_end (startD 5 ys) M (bodyN M.length X P) := by
  rintro ys M X P ⟨n, s, ws, x, rfl, ok, hx, hM, hE, hK⟩
  unfold d_end
  try walk_at "ev"
  refine ⟨n, s, ws, x, rfl, hx, fun e he => .same (hE e he), fun he => ?_⟩
  obtain ⟨l, rfl, hl⟩ := sweetsErr_ok he
  obtain ⟨T, hT, hTl, q⟩ := hK l rfl hl
  try walk_at "ev"
  refine ⟨n, s, ws, l, rfl, ok, hl.1, hM, ?_⟩
  try walk_at "ev"
  refine ⟨fun m g M' => M' = M ∧ ∃ t, t ≤ T ∧ m = T - t ∧ g = [some (.gm n s ws), some (.tup (iL l)), some (.int (t : Int)), some (.tup (iL (itP n s ws l t))), some (.tup (iL (itP n s ws l (t + 1))))], ⟨T, rfl, 0, Nat.zero_le _, rfl, rfl⟩, ?_⟩
  rintro m g M1 ⟨rfl, t, ht, rfl, rfl⟩
  try walk_at "ev"
  refine rdNe_t _ _ _ _ ?_
  try walk_at "ev"
  by_cases e : itP n s ws l (t + 1) = itP n s ws l t
  · rw [decide_eq_true e]
    have ht2 : t = T := by
      by_cases h : t < T
      · exact absurd e (hTl t h)
      · omega
    subst ht2
    try walk_at "ev"
    refine ⟨_, _, rfl, seqOf_tup _ _, ?_⟩
    try walk_at "ev"
    refine ⟨_, _, rfl, seqOf_lst _ _, ?_⟩
    try walk_at "ev"
    refine ⟨_, _, rfl, seqOf_tup _ _, ?_⟩
    try walk_at "ev"
    refine ⟨_, _, rfl, seqOf_lst _ _, ?_⟩
    try walk_at "ev"
    exact ⟨by decide, .same q⟩
  · rw [decide_eq_false e]
    have ht2 : t < T := by
      by_cases h : t = T
      · subst h; exact absurd hT e
      · omega
    try walk_at "ev"
    refine ⟨n, s, ws, _, rfl, ok, itP_len hl.1 (t + 1), hM, ?_⟩
    try walk_at "ev"
    refine ⟨T - (t + 1), by omega, t + 1, by omega, rfl, rfl, rfl, rfl⟩
abbrev sp_lacking : DSp := fun xs M X k => ∃ n s ws x, xs = [.gm n s ws, x] ∧ GOk n s ws ∧ TyOk M x ∧ (∀ c ∈ M, ClnC c) ∧ (∀ e, sweetsErr n x = some e → X e M) ∧ ∀ l, x = .tup (iL l) → SwOk n l → k (.int ((fillL s l).sum - l.sum)) M
abbrev d_lacking : DS := (sSeq (sDrop (dCall sp_check_sweets [] (dCons (dV 0) (dCons (dV 1) dNil)))) (sRet (dOp rdSub (dCB rdSum (dCons (dCB rdList (dCons (dCall sp_filled_by [] (dCons (dV 0) (dCons (dV 1) dNil))) dNil)) dNil)) (dCB rdSum (dCons (dCB rdList (dCons (dV 1) dNil)) dNil)))))
--  2 ['game', 'sweets']
theorem pure_lacking : ∀ ys M X P, sp_lacking ys M X P → d_lacking (startD 2 ys) M (bodyN M.length X P) := by
  rintro ys M X P ⟨n, s, ws, x, rfl, ok, hx, hM, hE, hK⟩
  unfold d_lacking
  try walk_at "ev"
  refine ⟨n, s, ws, x, rfl, hx, fun e he => .same (hE e he), fun he => ?_⟩
  obtain ⟨l, rfl, hl⟩ := sweetsErr_ok he
  have h1 := hl.1
  have h2 := ok.n12
  try walk_at "ev"
  refine ⟨n, s, ws, l, rfl, ok.s2, ok.s9, by omega, hM, ?_⟩
  try walk_at "ev"
  refine ⟨_, _, rfl, seqOf_tup _ _, ?_⟩
  try walk_at "ev"
  refine ⟨_, _, rfl, seqOf_lst _ _, ?_⟩
  try walk_at "ev"
  refine ⟨_, _, rfl, seqOf_tup _ _, ?_⟩
  try walk_at "ev"
  refine ⟨_, _, rfl, seqOf_lst _ _, ?_⟩
  try walk_at "ev"
  exact .same (hK l rfl hl)
abbrev sp_law_sweets : DSp := fun xs M X k => ∃ j n s ws m, xs = [.ptr j, .gm n s ws, .int m] ∧ M[j]? = some .rng ∧ GOk n s ws ∧ 0 ≤ m ∧ m < 2 ^ 199 ∧ (∀ c ∈ M, ClnC c) ∧ ∀ l : List Int, (l.length : Int) = n → (∀ x ∈ l, 0 ≤ x ∧ (x ≤ 8 ∨ x ≤ m)) → k (.tup (iL l)) M
abbrev d_law_sweets : DS := (sRet (dCB rdTup (dCons (dLc (iR1 (dCons (dGet "size" (dV 1)) dNil)) (gN 3) dYes (dCall sp_law_pick [] (dCons (dV 0) (dCons (dLst (dCons (dI 0) (dCons (dCall sp_law_below [] (dCons (dV 0) (dCons (dI 9) dNil))) (dCons (dCall sp_law_below [] (dCons (dV 0) (dCons (dOp rdAdd (dV 2) (dI 1)) dNil))) dNil)))) dNil))) [3]) dNil)))
--  4 ['_law_d', '_law_game_here', '_law_most', '_law_child']
theorem ints_of {zs : List D} (R : Int → Prop) (h : ∀ (i : Nat) (z : D), zs[i]? = some z → ∃ c, z = .int c ∧ R c) : ∃ l : List Int, zs = iL l ∧ ∀ x ∈ l, R x := by
  refine ⟨zs.map intD, ?_, fun x hx => ?_⟩
  · unfold iL
    rw [List.map_map]
    refine List.ext_getElem? fun j => ?_
    rw [List.getElem?_map]
    cases e : zs[j]? with
    | none => rfl
    | some d => obtain ⟨i, rfl, _⟩ := h j d e; rfl
  · obtain ⟨d, hd, rfl⟩ := List.mem_map.mp hx
    obtain ⟨j, hj⟩ := List.mem_iff_getElem?.mp hd
    obtain ⟨i, rfl, h⟩ := h j d hj
    exact h
theorem pure_law_sweets : ∀ ys M X P, sp_law_sweets ys M X P → d_law_sweets (startD 4 ys) M (bodyN M.length X P) := by
  rintro ys M X P ⟨j, n, s, ws, m, rfl, hj, ok, hm0, hm1, hM, q⟩
  have h1 := ok.n2
  have h2 := ok.n12
  unfold d_law_sweets
  try walk_at "ev"
  refine ⟨by omega, by omega, lc_all (fun y z => ∃ c, z = .int c ∧ 0 ≤ c ∧ (c ≤ 8 ∨ c ≤ m)) hM (by rw [rng_len, sizeLine_val]; omega) (fun y z ⟨c, e, _⟩ => e ▸ .int c) ?_ ?_⟩
  · intro y hy acc hacc Q hQ
    try walk_at "ev"
    refine ⟨j, 9, rfl, get_app hj, by decide, by decide, fun a ha0 ha1 => ?_⟩
    try walk_at "ev"
    refine ⟨j, m + 1, rfl, get_app hj, by omega, by omega, fun b hb0 hb1 => ?_⟩
    try walk_at "ev"
    refine ⟨by decide, j, _, [.int 0, .int a, .int b], rfl, rfl, get_app hj, by simp, by simp, fun z hz => hQ z ?_⟩
    simp at hz
    rcases hz with rfl | rfl | rfl
    · exact ⟨0, rfl, by decide, .inl (by decide)⟩
    · exact ⟨a, rfl, ha0, .inl (by omega)⟩
    · exact ⟨b, rfl, hb0, .inr (by omega)⟩
  · intro zs hz hR
    rw [rng_len] at hz
    obtain ⟨l, rfl, hl⟩ := ints_of (fun c => 0 ≤ c ∧ (c ≤ 8 ∨ c ≤ m)) fun i z e => hR i (.int (i : Int)) z (by
      have hi := (List.getElem?_eq_some_iff.mp e).1
      have e2 : (iL (rngL 0 n.toNat))[i]? = some ((iL (rngL 0 n.toNat))[i]'(by rw [rng_len]; omega)) := List.getElem?_eq_getElem _
      rw [e2, (rng_get _ _ _ e2).2]) e
    rw [iL_len] at hz
    exact ⟨_, _, rfl, rfl, .same (q l (by omega) hl)⟩
abbrev sp_law : DSp := fun xs M X k => ∃ l : List Int, xs = [.scr l] ∧ l.length < 1000 ∧ M = [] ∧ ∀ M', k (.bl true) M'
theorem law_starts (l : List Int) (X : EK) (k : D → MS → Prop) (hl : l.length ≤ 63) (hk : ∀ M', k (.bl true) M') : sp_law [.scr l] [] X k := ⟨l, rfl, by omega, rfl, hk⟩
theorem fix_more {n s : Int} {ws l : List Int} {N : Nat} (h : itP n s ws l (N + 1) = itP n s ws l N) : ∀ j, itP n s ws l (N + j) = itP n s ws l N
  | 0 => rfl
  | j + 1 => by
    show passL n s ws (itP n s ws l (N + j)) = _
    rw [fix_more h j]
    exact h
theorem least_fix {n s : Int} {ws l : List Int} : ∀ {N : Nat}, itP n s ws l (N + 1) = itP n s ws l N → ∃ T, T ≤ N ∧ itP n s ws l (T + 1) = itP n s ws l T ∧ (∀ t, t < T → itP n s ws l (t + 1) ≠ itP n s ws l t) ∧ itP n s ws l T = itP n s ws l N
  | 0, h => ⟨0, Nat.le_refl _, h, fun t ht => absurd ht (Nat.not_lt_zero _), rfl⟩
  | N + 1, h => by
    by_cases e : itP n s ws l (N + 1) = itP n s ws l N
    · obtain ⟨T, h1, h2, h3, h4⟩ := least_fix e
      exact ⟨T, by omega, h2, h3, by rw [h4, e]⟩
    · refine ⟨N + 1, Nat.le_refl _, h, fun t ht e2 => e ?_, rfl⟩
      have h5 := fix_more e2
      have h6 : N = t + (N - t) := by omega
      rw [h6, show t + (N - t) + 1 = t + (N - t + 1) by omega, h5, h5]
theorem gok21 : GOk 2 2 [1] := ⟨by decide, by decide, by decide, by decide, by decide, by decide, by decide, fun i a b ha hb => by simp at hb⟩
theorem pass2 (a b : Int) : passL 2 2 [1] [a, b] = [(a + 1) / 2 + (b + 1) / 2, (a + 1) / 2 + (b + 1) / 2] := by
  have e1 : ∀ u v : Int, ixI [u, v] 0 = u := fun u v => rfl
  have e2 : ∀ u v : Int, ixI [u, v] 1 = v := fun u v => rfl
  have e3 : ∀ u v : Int, ixI [u, v] (-1) = v := fun u v => rfl
  have h : passL 2 2 [1] [a, b] = [(2 - 1) * ixI (unitL 2 [a, b]) 0 + (ixI (unitL 2 [a, b]) (-1) + 0), (2 - 1) * ixI (unitL 2 [a, b]) 1 + (ixI (unitL 2 [a, b]) 0 + 0)] := rfl
  rw [h]
  show [(2 - 1) * ixI [fillN 2 a / 2, fillN 2 b / 2] 0 + (ixI [fillN 2 a / 2, fillN 2 b / 2] (-1) + 0), (2 - 1) * ixI [fillN 2 a / 2, fillN 2 b / 2] 1 + (ixI [fillN 2 a / 2, fillN 2 b / 2] 0 + 0)] = _
  rw [e1, e2, e3]
  have f : ∀ x : Int, fillN 2 x / 2 = (x + 1) / 2 := fun x => by unfold fillN; omega
  rw [f, f]
  congr 1
  · omega
  · congr 1; omega
theorem fill_eq {s x : Int} (h2 : 2 ≤ s) (h9 : s ≤ 9) : x + (0 - x) % s = fillN s x := by
  have : s = 2 ∨ s = 3 ∨ s = 4 ∨ s = 5 ∨ s = 6 ∨ s = 7 ∨ s = 8 ∨ s = 9 := by omega
  unfold fillN
  rcases this with rfl | rfl | rfl | rfl | rfl | rfl | rfl | rfl <;> omega
theorem ixI_rep {n : Nat} {u i : Int} (h0 : -(n : Int) ≤ i) (h1 : i < n) : ixI (List.replicate n u) i = u := by
  have key : ∃ j, ixN (List.replicate n u).length i = some j ∧ j < n := by
    rw [List.length_replicate]
    unfold ixN
    by_cases h : 0 ≤ i
    · rw [if_pos h, if_pos h1]; exact ⟨_, rfl, by omega⟩
    · rw [if_neg h, if_pos h0]; exact ⟨_, rfl, by omega⟩
  obtain ⟨j, e, hj⟩ := key
  unfold ixI
  rw [e]
  show (List.replicate n u).getD j 0 = u
  rw [List.getD_eq_getElem?_getD, List.getElem?_replicate, if_pos hj]
  rfl
theorem sum_rep (u : Int) : ∀ n : Nat, (List.replicate n u).sum = (n : Int) * u
  | 0 => by simp
  | n + 1 => by
    rw [List.replicate_succ, List.sum_cons, sum_rep u n, Int.natCast_add]
    have : ((1 : Nat) : Int) = 1 := rfl
    rw [this, Int.add_mul, Int.one_mul, Int.add_comm]
theorem pass_rep {n s : Int} {ws : List Int} (ok : GOk n s ws) (x : Int) : passL n s ws (List.replicate n.toNat x) = List.replicate n.toNat (fillN s x) := by
  have h1 := ok.n2
  have hU : unitL s (List.replicate n.toNat x) = List.replicate n.toNat (fillN s x / s) := by unfold unitL; rw [List.map_replicate]
  unfold passL
  rw [hU]
  refine List.ext_getElem? fun i => ?_
  rw [List.getElem?_map, List.getElem?_replicate]
  unfold rngL
  rw [List.getElem?_map]
  by_cases hi : i < n.toNat
  · rw [List.getElem?_range hi, if_pos hi]
    show some ((s - (ws.length : Int)) * ixI (List.replicate n.toNat (fillN s x / s)) (0 + (i : Int)) + (ws.map fun w => ixI (List.replicate n.toNat (fillN s x / s)) (0 + (i : Int) - w)).sum) = some _
    congr 1
    rw [ixI_rep (by omega) (by omega)]
    have hw : (ws.map fun w => ixI (List.replicate n.toNat (fillN s x / s)) (0 + (i : Int) - w)) = List.replicate ws.length (fillN s x / s) := by
      refine List.ext_getElem? fun j => ?_
      rw [List.getElem?_map, List.getElem?_replicate]
      by_cases hj : j < ws.length
      · rw [List.getElem?_eq_getElem hj, if_pos hj]
        have := ok.w _ (List.getElem_mem hj)
        show some (ixI (List.replicate n.toNat (fillN s x / s)) (0 + (i : Int) - ws[j])) = some _
        rw [ixI_rep (by omega) (by omega)]
      · rw [List.getElem?_eq_none (by omega), if_neg hj]; rfl
    rw [hw, sum_rep, ← Int.add_mul]
    have hs := ok.s2
    have e : fillN s x / s = (x + s - 1) / s := by unfold fillN; rw [Int.mul_ediv_cancel _ (by omega)]
    rw [e, show s - (ws.length : Int) + (ws.length : Int) = s by omega]
    unfold fillN
    rw [Int.mul_comm]
  · rw [List.getElem?_eq_none (by rw [List.length_range]; omega), if_neg hi]; rfl
theorem fill_idem {s x : Int} (h : 2 ≤ s) : fillN s (fillN s x) = fillN s x := by
  have e : (fillN s x + s - 1) / s = fillN s x / s := by
    unfold fillN
    rw [Int.mul_ediv_cancel _ (by omega), show (x + s - 1) / s * s + s - 1 = (s - 1) + (x + s - 1) / s * s by omega, Int.add_mul_ediv_right _ _ (by omega), Int.ediv_eq_zero_of_lt (by omega) (by omega), Int.zero_add]
  show (fillN s x + s - 1) / s * s = _
  rw [e]
  unfold fillN
  rw [Int.mul_ediv_cancel _ (by omega)]
theorem flat_rep (n : Nat) (d : D) : (List.replicate n [d]).flatten = List.replicate n d := by
  induction n with
  | zero => rfl
  | succ n ih => rw [List.replicate_succ, List.flatten_cons, ih, List.replicate_succ]; rfl
theorem iL_rep (n : Nat) (i : Int) : List.replicate n (D.int i) = iL (List.replicate n i) := by unfold iL; rw [List.map_replicate]
theorem rdRepT_1 {x n : Int} (h2 : 2 ≤ n) (h12 : n ≤ 12) (M : MS) (k : D → Prop) (q : k (.tup (iL (List.replicate n.toNat x)))) : rdRepT (.tup [.int x]) (.int n) M k := by
  refine ⟨[.int x], n, rfl, rfl, by simp, h2, by omega, by simp, ?_⟩
  rw [flat_rep, iL_rep]
  exact q
/-- Game(2, 2, (1,)) made: what is wished of __init__ -/
theorem make_game {cG : Addr} {M : MS} {E : Exn → Prop} {R : Int → Int → List Int → Prop} (hM : ∀ c ∈ M, ClnC c) {n s : Int} {ws : List Int} (ok : GOk n s ws) (q : R n s ws) : sp_Game_init cG [.ptr M.length, .int n, .int s, .tup (iL ws)] (M ++ [.ins cG []])
    (fun e M2 => (∃ fs, M2 = M ++ [.ins cG fs]) ∧ (∀ c ∈ M, ClnC c) ∧ (∀ f y, e.fld = some (f, y) → Cln y) ∧ E e)
    (fun y M2 => y = .non ∧ ∃ n s ws, M2 = M ++ [.ins cG (gmF n s ws)] ∧ (∀ c ∈ M, ClnC c) ∧ R n s ws) := by
  refine ⟨_, _, _, _, rfl, last_get, by simp [tyN, tyL], by simp [tyN, tyL], by simp [tyN, tyL], fun ys e d hd => ?_, fun e he => ?_, fun n s ws2 e1 e2 e3 ok2 => ?_⟩
  · injection e with e; subst e
    obtain ⟨i, _, rfl⟩ := List.mem_map.mp hd
    simp [tyN, tyL]
  · rw [gameErr_none ok] at he; cases he
  · injection e1 with e1; injection e2 with e2; injection e3 with e3
    have e3 := iL_inj e3
    subst e1 e2 e3
    exact ⟨rfl, _, _, _, last_set, hM, q⟩
theorem itP_len' {n s : Int} {ws l : List Int} (h : (l.length : Int) = n) {t : Nat} : (itP n s ws l t).length = n.toNat := by have := itP_len (s := s) (ws := ws) h t; omega
theorem use_after {n s : Int} {ws l : List Int} {m : Int} (ok : GOk n s ws) (sok : SwOk n l) (h0 : 0 ≤ m) (h1 : m ≤ 2000) {M : MS} (hM : ∀ c ∈ M, ClnC c) {X : EK} {k : D → MS → Prop} (q : k (.tup (iL (itP n s ws l m.toNat))) M) : sp_after [.gm n s ws, .tup (iL l), .int m] M X k :=
  ⟨n, s, ws, _, _, rfl, ok, tyOk_tL M l, by simp [tyN, tyL], hM, fun e he => (by rw [sweetsErr_none sok] at he; cases he), fun _ hr => (by rw [isFrom_i ⟨h0, h1⟩] at hr; cases hr), fun l' m' e1 _ e2 _ _ => by
    injection e1 with e1; injection e2 with e2
    have e1 := iL_inj e1
    subst e1 e2
    exact q⟩
theorem use_end {n s : Int} {ws l : List Int} (ok : GOk n s ws) (sok : SwOk n l) {M : MS} (hM : ∀ c ∈ M, ClnC c) {X : EK} {k : D → MS → Prop}
    (q : ∃ T, itP n s ws l (T + 1) = itP n s ws l T ∧ (∀ t, t < T → itP n s ws l (t + 1) ≠ itP n s ws l t) ∧ k (.tup [.tup (iL (itP n s ws l T)), .int (T : Int), .int ((itP n s ws l T).sum - l.sum)]) M) : sp_end [.gm n s ws, .tup (iL l)] M X k :=
  ⟨n, s, ws, _, rfl, ok, tyOk_tL M l, hM, fun e he => (by rw [sweetsErr_none sok] at he; cases he), fun l' e1 _ => by
    injection e1 with e1
    have e1 := iL_inj e1
    subst e1
    exact q⟩
theorem use_lacking {n s : Int} {ws l : List Int} (ok : GOk n s ws) (sok : SwOk n l) {M : MS} (hM : ∀ c ∈ M, ClnC c) {X : EK} {k : D → MS → Prop} (q : k (.int ((fillL s l).sum - l.sum)) M) : sp_lacking [.gm n s ws, .tup (iL l)] M X k :=
  ⟨n, s, ws, _, rfl, ok, tyOk_tL M l, hM, fun e he => (by rw [sweetsErr_none sok] at he; cases he), fun l' e1 _ => by
    injection e1 with e1
    have e1 := iL_inj e1
    subst e1
    exact q⟩
theorem use_eq {n : Nat} {x y : D} (h : x = y) (hx : Pz n x) {M : MS} (hM : ∀ c ∈ M, ClnC c) {X : EK} {k : D → MS → Prop} (q : k (.bl true) M) : sp_law_equal n [x, y] M X k :=
  ⟨x, y, rfl, hx, h ▸ hx, hM, fun b hb => by
    have : b = true := hb.mpr h
    rw [this]; exact q⟩
end Sw

--EVX rdIsX rdIsV dNew0 dNewE dXGet rdCat rdCatT
namespace Sw
open PySem PySem.Spec PyProof.Rows L2 PD
local macro_rules | `(tactic| walk_at "ev") => `(tactic| simp only [sSeq, sAsg, sRet, sRetN, sIf, sDrop, sNx, sPar, sPar3, gN, gT, gsCons, gsNil, dV, dC, dI, dOp, dUn, dCh, dB, dAnd, dOr, dNot, dAndV, dOrV, dNotV, dIf, dNil, dCons, dTup, dLst, dCB, dCall, dSetLen, sTry, hdlD, dkRun, dkCls, dI0, dI2, rdLen, rdIsi, rdIsiT, rdIx, dGet_eq, rdGet_size, rdGet_share, rdGet_ways,
  sFor_eq, dLc_eq, iTp, iLs, iSc, iR1, iR2, iEnT, iEnL, iEnS, wipeD_nil, wipeD_cons, sOpen, dShut, sBrk, sCnt, sNever, dNeg, dPart, dNoPart, dSl, sAug, sSetL, dApp, dPopAt, dNewL, dNewCat, dToRng, sPut, dMake, finG, sRaise0, sRaise1, sFrz, dNewRep, rdIsX, rdIsV, dNew0, dNewE, dXGet, rdCat, rdCatT, dNewList, dPop, dStar, dUn,
  rdEq_i, rdNe_i, sI_2, ixN_0, ixN_1, Cell.lst.injEq, rdInt_i, rdInt_b, rdAbs_i, rdMax2_i, eqD_int, eqOk_int, cellD_int, eqD_bl, eqOk_bl, cellD_bl, eqOk_non, seqOf_lst, seqOf_tup, lstOf_lst, atD_0, atD_1, atD_2, List.set_set, cellD_lst, cellD_tup, iL_cons, iL_nil, iL_len,
  startD, bodyN, List.map_cons, List.map_nil, List.length_cons, List.length_nil, List.replicate_succ, List.replicate_zero, List.cons_append, List.nil_append, List.append_nil, List.getElem?_cons_zero, List.getElem?_cons_succ, List.set_cons_zero, List.set_cons_succ, Nat.reduceSub, Nat.reduceAdd, Nat.zero_add,
  Option.some.injEq, exists_eq_left', exists_eq_left, D.int.injEq, D.bl.injEq, D.lst.injEq, D.tup.injEq, D.str.injEq, D.ptr.injEq, D.scr.injEq, D.gm.injEq, List.cons.injEq, and_true, true_and, exists_and_left, exists_and_right, D.ty.injEq, and_assoc, ↓reduceIte, eq_self, Bool.not_true, Bool.not_false, Bool.false_eq_true, decide_true, decide_false])
/-! SwK19: errors apart. -/
abbrev sp_law_one : DSp := fun xs M X k => ∃ j, xs = [.ptr j] ∧ M[j]? = some .rng ∧ (∀ c ∈ M, ClnC c) ∧ ∀ e y f, e ∈ exL → Cln y → k (.tup [.exc e f y, .bl true]) M
theorem pz19 {y : D} (h : y ∈ [D.int 0, .int (-1), .non, .str "a", .tup []]) : Pz 1 y := by
  simp only [List.mem_cons, List.not_mem_nil, or_false] at h
  rcases h with rfl | rfl | rfl | rfl | rfl
  · exact .int _ _
  · exact .int _ _
  · exact .non _
  · exact .str _ _ (by decide +kernel)
  · exact .tup 0 _ (fun d hd => absurd hd List.not_mem_nil) (by decide)
theorem eqv19 {n : Nat} {x : D} (h : Pz n x) : PyData.eqv x.py x.py = true := by
  have all : ∀ xs : List D, (∀ x ∈ xs, PyData.eqv x.py x.py = true) → PyData.eqvAll (D.pys xs) (D.pys xs) = true := fun xs => by
    induction xs with
    | nil => intro _; rfl
    | cons x xs ih =>
      intro h
      show (PyData.eqv x.py x.py && PyData.eqvAll (D.pys xs) (D.pys xs)) = true
      rw [h x List.mem_cons_self, ih fun y hy => h y (List.mem_cons_of_mem _ hy)]
      rfl
  induction h with
  | non n => rfl
  | bl n b => cases b <;> rfl
  | int n i => have := eqD_int i i; rw [decide_eq_true rfl] at this; exact this
  | str n s _ => have := eqD_str s s; rw [decide_eq_true rfl] at this; exact this
  | lst n xs _ _ ih => exact all xs ih
  | tup n xs _ _ ih => exact all xs ih
theorem rdEq_same {n : Nat} {x : D} (h : Pz n x) (hn : n ≤ 30) {M : MS} {k : D → Prop} (q : k (.bl true)) : rdEq x x M k := by
  rw [rdEq_z h h hn]
  unfold eqD
  rw [eqv19 h]
  exact q
abbrev d_law_one : DS := (sSeq (sPar 1 2 (dCons (dCall sp_law_pick [] (dCons (dV 0) (dCons (dLst (dCons (dI 0) (dCons (dNeg (dI 1)) (dCons (dC .non) (dCons (dC (.str "a")) (dCons (dTup dNil) dNil)))))) dNil))) (dCons (dCall sp_law_below [] (dCons (dV 0) (dCons (dI 5) dNil))) dNil))) (sSeq (sIf (dB (dOp rdEq (dV 2) (dI 4))) (sSeq (sAsg (dNewE "BadText" "word" (dV 1)) (gN 3)) (sRet (dTup (dCons (dV 3) (dCons (dOp rdEq (dXGet ["BadText"] "word" (dV 3)) (dV 1)) dNil))))) sNx) (sSeq (sAsg (dOp rdIx (dLst (dCons (dNewE "BadRows" "index" (dV 1)) (dCons (dNewE "BadSeen" "index" (dV 1)) (dCons (dNewE "BadSteps" "index" (dV 1)) (dCons (dNewE "BadSweets" "index" (dV 1)) dNil))))) (dV 2)) (gN 3)) (sRet (dTup (dCons (dV 3) (dCons (dOp rdEq (dXGet ["BadSteps", "BadSweets", "BadRows", "BadSeen"] "index" (dV 3)) (dV 1)) dNil)))))))
--  4 ['_law_d', '_law_one_here', '_law_kind', '_law_error']
theorem pure_law_one : ∀ ys M X P, sp_law_one ys M X P → d_law_one (startD 4 ys) M (bodyN M.length X P) := by
  rintro ys M X P ⟨j, rfl, hj, hM, q⟩
  unfold d_law_one
  walk_at "ev"
  have hsz : ∀ k : Nat, k ≤ 100 → k ≤ sizeLine := fun k hk => by rw [sizeLine_val]; omega
  refine ⟨Nat.zero_le _, hsz _ (by decide), j, _, _, rfl, seqOf_lst _ _, hj, by simp, by decide, fun y hy => ?_⟩
  have py := pz19 hy
  refine ⟨j, 5, rfl, hj, by decide, by decide, fun r r0 r5 => (?_ : rdEq (.int r) (.int 4) M _)⟩
  rw [rdEq_i]
  refine ⟨_, rfl, ?_⟩
  have fin : ∀ e f, e ∈ exL → Ret P M.length (.tup [.exc e f y, .bl true]) M := fun e f h => .same (q e y f h py.cln)
  by_cases h4 : r = 4
  · rw [if_pos (decide_eq_true h4)]
    exact ⟨_, _, rfl, by simp, rdEq_same py (by decide) ⟨hsz _ (by decide), fin _ _ (by simp)⟩⟩
  · rw [if_neg (by rw [decide_eq_true_eq]; exact h4)]
    have h : r = 0 ∨ r = 1 ∨ r = 2 ∨ r = 3 := by omega
    rcases h with rfl | rfl | rfl | rfl
    · exact ⟨hsz _ (by decide), _, rfl, _, atD_0 _ _, _, _, rfl, by simp, rdEq_same py (by decide) ⟨hsz _ (by decide), fin _ _ (by simp)⟩⟩
    · exact ⟨hsz _ (by decide), _, rfl, _, atD_1 _ _ _, _, _, rfl, by simp, rdEq_same py (by decide) ⟨hsz _ (by decide), fin _ _ (by simp)⟩⟩
    · exact ⟨hsz _ (by decide), _, rfl, _, atD_2 _ _ _ _, _, _, rfl, by simp, rdEq_same py (by decide) ⟨hsz _ (by decide), fin _ _ (by simp)⟩⟩
    · exact ⟨hsz _ (by decide), _, rfl, _, rfl, _, _, rfl, by simp, rdEq_same py (by decide) ⟨hsz _ (by decide), fin _ _ (by simp)⟩⟩
abbrev sp_law_classes : DSp := fun xs M X k => ∃ x e, xs = [x] ∧ xCls x = some e ∧ e ∈ exL ∧ (∀ c ∈ M, ClnC c) ∧ k (.int 1) M
def boolsOf (e : Str) : List Bool := [exSub e "BadChild", exSub e "BadChildren", exSub e "BadGift", exSub e "BadMost", exSub e "BadParts", exSub e "BadRounds", exSub e "BadRows", exSub e "BadSeen", exSub e "BadSteps", exSub e "BadSweets", exSub e "BadText", exSub e "TooMany"]
theorem bools_one : ∀ e ∈ exL, ((boolsOf e).filter id).length = 1 := by decide +kernel
theorem filt_bl : ∀ l : List Bool, ((l.map D.bl).filter boolD).length = (l.filter id).length
  | [] => rfl
  | b :: l => by
    rw [List.map_cons, List.filter_cons, List.filter_cons]
    have := filt_bl l
    cases b with
    | true => exact congrArg (· + 1) this
    | false => exact this
abbrev d_law_classes : DS := (sSeq (sAsg (dLst (dCons (dCB (rdIsX exL exL2) (dCons (dV 0) (dCons (dC (.ecl "BadChild")) dNil))) (dCons (dCB (rdIsX exL exL2) (dCons (dV 0) (dCons (dC (.ecl "BadChildren")) dNil))) (dCons (dCB (rdIsX exL exL2) (dCons (dV 0) (dCons (dC (.ecl "BadGift")) dNil))) dNil)))) (gN 1)) (sSeq (sAsg (dOp rdCat (dV 1) (dLst (dCons (dCB (rdIsX exL exL2) (dCons (dV 0) (dCons (dC (.ecl "BadMost")) dNil))) (dCons (dCB (rdIsX exL exL2) (dCons (dV 0) (dCons (dC (.ecl "BadParts")) dNil))) (dCons (dCB (rdIsX exL exL2) (dCons (dV 0) (dCons (dC (.ecl "BadRounds")) dNil))) dNil))))) (gN 1)) (sSeq (sAsg (dOp rdCat (dV 1) (dLst (dCons (dCB (rdIsX exL exL2) (dCons (dV 0) (dCons (dC (.ecl "BadRows")) dNil))) (dCons (dCB (rdIsX exL exL2) (dCons (dV 0) (dCons (dC (.ecl "BadSeen")) dNil))) (dCons (dCB (rdIsX exL exL2) (dCons (dV 0) (dCons (dC (.ecl "BadSteps")) dNil))) dNil))))) (gN 1)) (sSeq (sAsg (dOp rdCat (dV 1) (dLst (dCons (dCB (rdIsX exL exL2) (dCons (dV 0) (dCons (dC (.ecl "BadSweets")) dNil))) (dCons (dCB (rdIsX exL exL2) (dCons (dV 0) (dCons (dC (.ecl "BadText")) dNil))) (dCons (dCB (rdIsX exL exL2) (dCons (dV 0) (dCons (dC (.ecl "TooMany")) dNil))) dNil))))) (gN 1)) (sRet (dCB rdLen (dCons (dLc (iLs (dV 1)) (gN 2) (dB (dV 2)) (dV 2) [2]) dNil)))))))
--  3 ['_law_error', '_law_found', '_law_one_here']
theorem pure_law_classes : ∀ ys M X P, sp_law_classes ys M X P → d_law_classes (startD 3 ys) M (bodyN M.length X P) := by
  rintro ys M X P ⟨x, e, rfl, hx, he, hM, q⟩
  unfold d_law_classes
  walk_at "ev"
  have hsz : ∀ k : Nat, k ≤ 100 → k ≤ sizeLine := fun k hk => by rw [sizeLine_val]; omega
  refine ⟨_, rfl, e, hx, he, by simp, ?_⟩
  refine ⟨_, rfl, e, hx, he, by simp, ?_⟩
  refine ⟨_, rfl, e, hx, he, by simp, ?_⟩
  refine ⟨hsz _ (by decide), ?_⟩
  refine ⟨_, rfl, e, hx, he, by simp, ?_⟩
  refine ⟨_, rfl, e, hx, he, by simp, ?_⟩
  refine ⟨_, rfl, e, hx, he, by simp, ?_⟩
  refine ⟨hsz _ (by decide), hsz _ (by decide), ?_⟩
  refine ⟨_, rfl, e, hx, he, by simp, ?_⟩
  refine ⟨_, rfl, e, hx, he, by simp, ?_⟩
  refine ⟨_, rfl, e, hx, he, by simp, ?_⟩
  refine ⟨hsz _ (by decide), hsz _ (by decide), ?_⟩
  refine ⟨_, rfl, e, hx, he, by simp, ?_⟩
  refine ⟨_, rfl, e, hx, he, by simp, ?_⟩
  refine ⟨_, rfl, e, hx, he, by simp, ?_⟩
  refine ⟨hsz _ (by decide), hsz _ (by decide), ?_⟩
  refine lc_filter (ys := (boolsOf e).map D.bl) boolD id hM (by rw [sizeLine_val]; simp [boolsOf]) (fun y hy => ?_) ?_ ?_
  · obtain ⟨b, _, rfl⟩ := List.mem_map.mp hy
    exact .bl b
  · intro y hy acc _ Q R hQ hR
    obtain ⟨b, _, rfl⟩ := List.mem_map.mp hy
    refine ⟨_, rfl, b, rfl, rfl, ?_⟩
    cases b with
    | true => rw [if_pos rfl]; exact ⟨_, rfl, hQ rfl⟩
    | false => rw [if_neg (by decide)]; exact hR rfl
  · refine ⟨_, seqOf_lst _ _, ?_⟩
    rw [List.length_map, filt_bl, bools_one e he]
    exact .same q
theorem ex_sweet (e : Str) : exSub e "SweetError" = true := by
  unfold exSub
  rw [decide_eq_true (rfl : ("SweetError" : Str) = "SweetError"), Bool.or_true]
abbrev d_law : DS := (sSeq (sAsg (dCall sp_law_random [] (dCons (dV 0) (dCons (dI 2719) dNil))) (gN 1)) (sSeq (sFor (iR1 (dCons (dI 4) dNil)) (gN 2) (sSeq (sAsg (dCall sp_law_one [] (dCons (dV 1) dNil)) (gT 2 (gsCons (gN 3) (gsCons (gN 4) gsNil)))) (sSeq (sIf (dOr (dNot (dB (dV 4))) (dOr (dB (dOp rdNe (dCall sp_law_classes [] (dCons (dV 3) dNil)) (dI 1))) (dNot (dB (dCB (rdIsX exL exL2) (dCons (dV 3) (dCons (dC (.ecl "SweetError")) dNil))))))) (sRet (dC (.bl false))) sNx) (sIf (dNot (dB (dCB (rdIsV exL) (dCons (dV 3) (dCons (dC (.ty "ValueError")) dNil))))) (sRet (dC (.bl false))) sNx)))) (sSeq (sAsg (dLst (dCons (dNew0 "BadChild") (dCons (dNew0 "BadChildren") (dCons (dNew0 "BadGift") (dCons (dNew0 "BadMost") (dCons (dNew0 "BadParts") (dCons (dNew0 "BadRounds") (dCons (dNew0 "TooMany") dNil)))))))) (gN 5)) (sRet (dOp rdEq (dLc (iLs (dV 5)) (gN 6) (dOr (dB (dOp rdNe (dCall sp_law_classes [] (dCons (dV 6) dNil)) (dI 1))) (dNot (dB (dCB (rdIsX exL exL2) (dCons (dV 6) (dCons (dC (.ecl "SweetError")) dNil)))))) (dV 6) [6]) (dLst dNil))))))
--  7 ['_law_script', '_law_d', '_law_turn', '_law_error', '_law_is_right', '_law_errors', '_law_one_here']
theorem pure_law : ∀ ys M X P, sp_law ys M X P → d_law (startD 7 ys) M (bodyN M.length X P) := by
  rintro ys M X P ⟨l, rfl, hl, rfl, q⟩
  unfold d_law
  walk_at "ev"
  refine ⟨l, 2719, rfl, by decide, hl, by simp, ?_⟩
  walk_at "ev"
  have hM0 : ∀ c ∈ [Cell.rng], ClnC c := fun c hc => by rw [List.mem_singleton] at hc; subst hc; exact trivial
  have hsz : ∀ k : Nat, k ≤ 100 → k ≤ sizeLine := fun k hk => by rw [sizeLine_val]; omega
  refine ⟨by decide, by decide, ?_⟩
  refine for_inv (fun i g M' => M' = [Cell.rng] ∧ ∃ a2 a3 a4 a5 a6, g = [some (.scr l), some (.ptr 0), a2, a3, a4, a5, a6]) ⟨rfl, _, _, _, _, _, rfl⟩ ?_ ?_
  · rintro i y g1 M1 e ⟨rfl, a2, a3, a4, a5, a6, rfl⟩
    try walk_at "ev"
    refine ⟨0, rfl, rfl, hM0, fun e y f he hy => ?_⟩
    try walk_at "ev"
    refine ⟨_, e, rfl, rfl, he, hM0, (?_ : rdNe (.int 1) (.int 1) [Cell.rng] _)⟩
    rw [rdNe_i]
    refine ⟨_, rfl, ?_⟩
    rw [if_neg (by decide)]
    refine ⟨_, rfl, e, rfl, he, by simp, ?_⟩
    rw [if_neg (by rw [ex_sweet]; decide)]
    exact ⟨e, rfl, he, rfl, _, rfl⟩
  · rintro g1 M1 ⟨rfl, a2, a3, a4, a5, a6, rfl⟩
    try walk_at "ev"
    refine ⟨hsz _ (by decide), ?_⟩
    have hval : ∀ y ∈ [D.exn (Str.ofString "BadChild"), D.exn (Str.ofString "BadChildren"), D.exn (Str.ofString "BadGift"), D.exn (Str.ofString "BadMost"), D.exn (Str.ofString "BadParts"), D.exn (Str.ofString "BadRounds"), D.exn (Str.ofString "TooMany")], ∃ e, y = .exn e ∧ e ∈ exL := fun y hy => by
      simp only [List.mem_cons, List.not_mem_nil, or_false] at hy
      rcases hy with rfl | rfl | rfl | rfl | rfl | rfl | rfl <;> exact ⟨_, rfl, by simp⟩
    refine lc_filter (fun _ => false) id hM0 (by rw [sizeLine_val]; simp) (fun y hy => ?_) ?_ ?_
    · obtain ⟨e, rfl, _⟩ := hval y hy
      exact .exn e
    · intro y hy acc hacc Q R hQ hR
      obtain ⟨e, rfl, he⟩ := hval y hy
      try walk_at "ev"
      refine ⟨_, e, rfl, rfl, he, clnC_app hM0 hacc, (?_ : rdNe (.int 1) (.int 1) _ _)⟩
      rw [rdNe_i]
      refine ⟨_, rfl, ?_⟩
      rw [if_neg (by decide)]
      refine ⟨_, rfl, e, rfl, he, by simp, rfl, ?_⟩
      rw [if_neg (by rw [ex_sweet]; decide)]
      exact hR rfl
    · refine ⟨Nat.zero_le _, ?_⟩
      have hp : Pz 1 (.lst []) := .lst 0 _ (fun d hd => absurd hd List.not_mem_nil) (by decide)
      show rdEq (.lst []) (.lst []) _ _
      exact rdEq_same hp (by decide) (.same (q _))
end Sw

/-! the text by places -/
namespace Lw
open PySem PySem.Spec PyProof.Rows L2 PD Sw
def topS (i : Nat) : Stmt := PySem.Challenge.pw_sweetsring_k19_errors_apart.main.body.getD i (.Pass ⟨0, 0, 0, 0⟩)
abbrev s_law_classes : Stmt := topS 19
abbrev s_law_below : Stmt := topS 16
abbrev s_law_pick : Stmt := topS 17
abbrev s_law_one : Stmt := topS 18
abbrev s_law_random : Stmt := topS 15
abbrev s_law : Stmt := topS 20
abbrev s_e_BadRows : Stmt := inClass (topS 8) 0
abbrev s_e_BadSeen : Stmt := inClass (topS 9) 0
abbrev s_e_BadSteps : Stmt := inClass (topS 4) 0
abbrev s_e_BadSweets : Stmt := inClass (topS 5) 0
abbrev s_e_BadText : Stmt := inClass (topS 13) 0
theorem sc_law_classes : FnScope ["_law_error", "_law_found", "_law_one_here"] ["_law_error"] (defScope s_law_classes) := ⟨rfl, rfl, rfl, by decide +kernel, rfl, by decide +kernel, by decide +kernel⟩
theorem sc_law_below : FnScope ["_law_d", "_law_size", "_law_result"] ["_law_d", "_law_size"] (defScope s_law_below) := ⟨rfl, rfl, rfl, by decide +kernel, rfl, by decide +kernel, by decide +kernel⟩
theorem sc_law_pick : FnScope ["_law_d", "_law_items"] ["_law_d", "_law_items"] (defScope s_law_pick) := ⟨rfl, rfl, rfl, by decide +kernel, rfl, by decide +kernel, by decide +kernel⟩
theorem sc_law_one : FnScope ["_law_d", "_law_one_here", "_law_kind", "_law_error"] ["_law_d"] (defScope s_law_one) := ⟨rfl, rfl, rfl, by decide +kernel, rfl, by decide +kernel, by decide +kernel⟩
theorem sc_law_random : FnScope ["_law_script", "_law_salt", "_law_seed", "_law_cell"] ["_law_script", "_law_salt"] (defScope s_law_random) := ⟨rfl, rfl, rfl, by decide +kernel, rfl, by decide +kernel, by decide +kernel⟩
theorem sc_law : FnScope ["_law_script", "_law_d", "_law_turn", "_law_error", "_law_is_right", "_law_errors", "_law_one_here"] ["_law_script"] (defScope s_law) := ⟨rfl, rfl, rfl, by decide +kernel, rfl, by decide +kernel, by decide +kernel⟩
structure Tx (K : PySem.W.Frag) (mg : Str → Option Value) (cl : Str → Addr) where
  dummy : True
  b_ValueError : mg "ValueError" = none
  b_abs : mg "abs" = none
  b_int : mg "int" = none
  b_isinstance : mg "isinstance" = none
  b_len : mg "len" = none
  b_range : mg "range" = none
  e_BadChild : Er0 K mg "BadChild" (cl "BadChild")
  e_BadChildren : Er0 K mg "BadChildren" (cl "BadChildren")
  e_BadGift : Er0 K mg "BadGift" (cl "BadGift")
  e_BadMost : Er0 K mg "BadMost" (cl "BadMost")
  e_BadParts : Er0 K mg "BadParts" (cl "BadParts")
  e_BadRounds : Er0 K mg "BadRounds" (cl "BadRounds")
  f_BadRows : Addr
  e_BadRows : PySem.ErrI.LowTxt K mg "BadRows" "BadRows.__init__" (cl "BadRows") f_BadRows
  f_BadSeen : Addr
  e_BadSeen : PySem.ErrI.LowTxt K mg "BadSeen" "BadSeen.__init__" (cl "BadSeen") f_BadSeen
  f_BadSteps : Addr
  e_BadSteps : PySem.ErrI.LowTxt K mg "BadSteps" "BadSteps.__init__" (cl "BadSteps") f_BadSteps
  f_BadSweets : Addr
  e_BadSweets : PySem.ErrI.LowTxt K mg "BadSweets" "BadSweets.__init__" (cl "BadSweets") f_BadSweets
  f_BadText : Addr
  e_BadText : PySem.ErrW.LowTxt K mg "BadText" "BadText.__init__" (cl "BadText") f_BadText
  e_TooMany : Er0 K mg "TooMany" (cl "TooMany")
  h_BadChildren : mg "BadChildren" = some (.ref (cl "BadChildren"))
  h_BadParts : mg "BadParts" = some (.ref (cl "BadParts"))
  h_BadSteps : mg "BadSteps" = some (.ref (cl "BadSteps"))
  h_BadSweets : mg "BadSweets" = some (.ref (cl "BadSweets"))
  h_BadRounds : mg "BadRounds" = some (.ref (cl "BadRounds"))
  h_BadMost : mg "BadMost" = some (.ref (cl "BadMost"))
  h_BadRows : mg "BadRows" = some (.ref (cl "BadRows"))
  h_BadSeen : mg "BadSeen" = some (.ref (cl "BadSeen"))
  h_TooMany : mg "TooMany" = some (.ref (cl "TooMany"))
  h_BadChild : mg "BadChild" = some (.ref (cl "BadChild"))
  h_BadGift : mg "BadGift" = some (.ref (cl "BadGift"))
  h_BadText : mg "BadText" = some (.ref (cl "BadText"))
  h_SweetError : mg "SweetError" = some (.ref (cl "SweetError"))
  xc : ∀ e ∈ exL, ExcC K (cl e)
  xk : ∀ e ∈ exL, ∀ c ∈ exL2, PySem.W.kitOne K (.ref (cl e)) (.ref (cl c)) = some (exSub e c)
  xv : ∀ e ∈ exL, PySem.W.kitOne K (.ref (cl e)) (.type "ValueError") = some true
  xg_index : ∀ c ∈ (["BadSteps", "BadSweets", "BadRows", "BadSeen"] : List Str), XfC K (cl c) ∧ PySem.W.findIn K (.ref (cl c)) "index" = some none
  xg_word : ∀ c ∈ (["BadText"] : List Str), XfC K (cl c) ∧ PySem.W.findIn K (.ref (cl c)) "word" = some none
section
variable {P : Program} {w : World} {K : PySem.W.Frag} {mg : Str → Option Value} {base : Heap} {cG cP : Addr} {cl : Str → Addr}
/-! _law_classes -/
theorem ok_law_classes {f : Addr} {fd : FuncData} (FF : FunD K "_law_classes" "_law_classes" (defArgs s_law_classes) (defBody s_law_classes) (defScope s_law_classes) [] [] f fd) (T : Tx K mg cl) : FnOk P w K mg base (L2.CX P w) 3 f fd ["_law_error"] (upSp ⟨K, cG, cl⟩ sp_law_classes) := by
  refine fn_okF (d := d_law_classes) FF sc_law_classes (fun ys M X P h => ?_) ?_ (pure_law_classes)
  · first | (obtain ⟨_, e, _⟩ := h; rw [e]; rfl) | (obtain ⟨_, _, e, _⟩ := h; rw [e]; rfl) | (obtain ⟨_, _, _, e, _⟩ := h; rw [e]; rfl) | (obtain ⟨_, _, _, _, e, _⟩ := h; rw [e]; rfl) | (obtain ⟨_, _, _, _, _, e, _⟩ := h; rw [e]; rfl) | (obtain ⟨_, _, _, _, _, _, e, _⟩ := h; rw [e]; rfl) | (obtain ⟨_, _, _, _, _, _, _, e, _⟩ := h; rw [e]; rfl) | (obtain ⟨_, _, _, _, _, _, _, _, e, _⟩ := h; rw [e]; rfl) | (obtain ⟨_, _, _, _, _, _, _, _, _, e, _⟩ := h; rw [e]; rfl) | (obtain ⟨_, _, _, _, _, _, _, _, _, _, e, _⟩ := h; rw [e]; rfl) | (obtain ⟨_, _, _, _, _, _, _, _, _, _, _, e, _⟩ := h; rw [e]; rfl) | (obtain ⟨_, _, _, _, _, _, _, _, _, _, _, _, e, _⟩ := h; rw [e]; rfl) | (obtain ⟨_, _, _, _, _, _, _, _, _, _, _, _, _, e, _⟩ := h; rw [e]; rfl) | (obtain ⟨_, _, _, _, _, _, _, _, _, _, _, _, _, _, e, _⟩ := h; rw [e]; rfl) | (obtain ⟨_, _, _, _, _, _, _, _, _, _, _, _, _, _, _, e, _⟩ := h; rw [e]; rfl) | (obtain ⟨_, _, _, _, _, _, _, _, _, _, _, _, _, _, _, _, e, _⟩ := h; rw [e]; rfl)
  · intro cdv A outer sh H E hr
    exact (ss_cons (s_set (i := 1) sc_law_classes.nd (de_lst (da_cons (b_isX T.xc T.xk T.b_isinstance (da_cons (de_v 0) (da_cons (de_ecl T.h_BadChild) da_nil))) (da_cons (b_isX T.xc T.xk T.b_isinstance (da_cons (de_v 0) (da_cons (de_ecl T.h_BadChildren) da_nil))) (da_cons (b_isX T.xc T.xk T.b_isinstance (da_cons (de_v 0) (da_cons (de_ecl T.h_BadGift) da_nil))) da_nil)))))
  (ss_cons (s_set (i := 1) sc_law_classes.nd (e_cat (de_v 1) (de_lst (da_cons (b_isX T.xc T.xk T.b_isinstance (da_cons (de_v 0) (da_cons (de_ecl T.h_BadMost) da_nil))) (da_cons (b_isX T.xc T.xk T.b_isinstance (da_cons (de_v 0) (da_cons (de_ecl T.h_BadParts) da_nil))) (da_cons (b_isX T.xc T.xk T.b_isinstance (da_cons (de_v 0) (da_cons (de_ecl T.h_BadRounds) da_nil))) da_nil))))))
  (ss_cons (s_set (i := 1) sc_law_classes.nd (e_cat (de_v 1) (de_lst (da_cons (b_isX T.xc T.xk T.b_isinstance (da_cons (de_v 0) (da_cons (de_ecl T.h_BadRows) da_nil))) (da_cons (b_isX T.xc T.xk T.b_isinstance (da_cons (de_v 0) (da_cons (de_ecl T.h_BadSeen) da_nil))) (da_cons (b_isX T.xc T.xk T.b_isinstance (da_cons (de_v 0) (da_cons (de_ecl T.h_BadSteps) da_nil))) da_nil))))))
  (ss_cons (s_set (i := 1) sc_law_classes.nd (e_cat (de_v 1) (de_lst (da_cons (b_isX T.xc T.xk T.b_isinstance (da_cons (de_v 0) (da_cons (de_ecl T.h_BadSweets) da_nil))) (da_cons (b_isX T.xc T.xk T.b_isinstance (da_cons (de_v 0) (da_cons (de_ecl T.h_BadText) da_nil))) (da_cons (b_isX T.xc T.xk T.b_isinstance (da_cons (de_v 0) (da_cons (de_ecl T.h_TooMany) da_nil))) da_nil))))))
  (ss_one (s_ret (b_len T.b_len (da_cons (de_lc (own := [("_law_one_here", 2)]) rfl sc_law_classes.nd (tgt_name (by decide)) (i_lst (de_v 1)) (blkOk_by (own := [("_law_one_here", 2)]) (by kernel_rfl)) (fun _ _ _ _ _ => (pg_name (i := 2) sc_law_classes.nd rfl (Or.inl rfl))) (fun _ _ _ _ _ => (dts_one (dt_val (de_v 2)))) (fun _ _ _ _ _ => (de_v 2))) da_nil))))))))
/-! _law_below -/
theorem ok_law_below {f : Addr} {fd : FuncData} (FF : FunD K "_law_below" "_law_below" (defArgs s_law_below) (defBody s_law_below) (defScope s_law_below) [] [] f fd) (T : Tx K mg cl) : FnOk P w K mg base (L2.CX P w) 3 f fd ["_law_d", "_law_size"] (upSp ⟨K, cG, cl⟩ sp_law_below) := by
  refine fn_okF (d := d_law_below) FF sc_law_below (fun ys M X P h => ?_) ?_ (pure_law_below)
  · first | (obtain ⟨_, e, _⟩ := h; rw [e]; rfl) | (obtain ⟨_, _, e, _⟩ := h; rw [e]; rfl) | (obtain ⟨_, _, _, e, _⟩ := h; rw [e]; rfl) | (obtain ⟨_, _, _, _, e, _⟩ := h; rw [e]; rfl) | (obtain ⟨_, _, _, _, _, e, _⟩ := h; rw [e]; rfl) | (obtain ⟨_, _, _, _, _, _, e, _⟩ := h; rw [e]; rfl) | (obtain ⟨_, _, _, _, _, _, _, e, _⟩ := h; rw [e]; rfl) | (obtain ⟨_, _, _, _, _, _, _, _, e, _⟩ := h; rw [e]; rfl) | (obtain ⟨_, _, _, _, _, _, _, _, _, e, _⟩ := h; rw [e]; rfl) | (obtain ⟨_, _, _, _, _, _, _, _, _, _, e, _⟩ := h; rw [e]; rfl) | (obtain ⟨_, _, _, _, _, _, _, _, _, _, _, e, _⟩ := h; rw [e]; rfl) | (obtain ⟨_, _, _, _, _, _, _, _, _, _, _, _, e, _⟩ := h; rw [e]; rfl) | (obtain ⟨_, _, _, _, _, _, _, _, _, _, _, _, _, e, _⟩ := h; rw [e]; rfl) | (obtain ⟨_, _, _, _, _, _, _, _, _, _, _, _, _, _, e, _⟩ := h; rw [e]; rfl) | (obtain ⟨_, _, _, _, _, _, _, _, _, _, _, _, _, _, _, e, _⟩ := h; rw [e]; rfl) | (obtain ⟨_, _, _, _, _, _, _, _, _, _, _, _, _, _, _, _, e, _⟩ := h; rw [e]; rfl)
  · intro cdv A outer sh H E hr
    exact (ss_open 0 (ss_cons (s_if (PW.pt (dw_and (t_eq hr.units (e_ix (de_v 0) de_int) de_int) (dw_and1 (t_gt (b_len T.b_len (da_cons (de_v 0) da_nil)) de_int)))) (ss_one (s_setL (de_popAt (de_v 0) de_int (pe_bm PySem.F.plainAttrs_list PySem.F.slot_list_pop PySem.F.type_list_pop mt_popAt (de_v 0) (pa_cons de_int pa_nil))) (de_v 0) de_int (ps_asg (de_popAt (de_v 0) de_int (pe_bm PySem.F.plainAttrs_list PySem.F.slot_list_pop PySem.F.type_list_pop mt_popAt (de_v 0) (pa_cons de_int pa_nil))) (pg_sub (de_v 0) de_int set_list)))) ss_nil)
  (ss_cons (s_if (t_gt (e_ix (de_v 0) de_int) de_int) (ss_cons (s_set (i := 2) sc_law_below.nd (e_mod (b_int T.b_int (da_cons (e_ix (de_v 0) de_int) da_nil)) (de_v 1)))
  (ss_cons (s_setL (e_div (e_ix (de_v 0) de_int) (de_v 1)) (de_v 0) de_int (ps_asg (e_div (e_ix (de_v 0) de_int) (de_v 1)) (pg_sub (de_v 0) de_int set_list)))
  (ss_one (s_ret (de_shut 0 (de_v 2)))))) ss_nil)
  (ss_cons (s_setL (e_mod (b_int T.b_int (da_cons (e_add (e_mul (e_ix (de_v 0) de_int) de_int) de_int) da_nil)) de_int) (de_v 0) de_int (ps_asg (e_mod (b_int T.b_int (da_cons (e_add (e_mul (e_ix (de_v 0) de_int) de_int) de_int) da_nil)) de_int) (pg_sub (de_v 0) de_int set_list)))
  (ss_one (s_ret (de_shut 0 (e_mod (b_int T.b_int (da_cons (e_div (e_ix (de_v 0) de_int) de_int) da_nil)) (de_v 1)))))))))
/-! _law_pick -/
theorem ok_law_pick {f : Addr} {fd : FuncData} (FF : FunD K "_law_pick" "_law_pick" (defArgs s_law_pick) (defBody s_law_pick) (defScope s_law_pick) [] [] f fd) (T : Tx K mg cl) {a_law_below : Addr} {d_law_below : FuncData} (D_law_below : Dn K mg "_law_below" s_law_below ["_law_d", "_law_size"] [] [] a_law_below d_law_below) (G_law_below : FnOk P w K mg base (L2.CX P w) 3 a_law_below d_law_below ["_law_d", "_law_size"] (upSp ⟨K, cG, cl⟩ sp_law_below)) : FnOk P w K mg base (L2.CX P w) 4 f fd ["_law_d", "_law_items"] (upSp ⟨K, cG, cl⟩ sp_law_pick) := by
  refine fn_okF (d := d_law_pick) FF sc_law_pick (fun ys M X P h => ?_) ?_ (pure_law_pick)
  · first | (obtain ⟨_, e, _⟩ := h; rw [e]; rfl) | (obtain ⟨_, _, e, _⟩ := h; rw [e]; rfl) | (obtain ⟨_, _, _, e, _⟩ := h; rw [e]; rfl) | (obtain ⟨_, _, _, _, e, _⟩ := h; rw [e]; rfl) | (obtain ⟨_, _, _, _, _, e, _⟩ := h; rw [e]; rfl) | (obtain ⟨_, _, _, _, _, _, e, _⟩ := h; rw [e]; rfl) | (obtain ⟨_, _, _, _, _, _, _, e, _⟩ := h; rw [e]; rfl) | (obtain ⟨_, _, _, _, _, _, _, _, e, _⟩ := h; rw [e]; rfl) | (obtain ⟨_, _, _, _, _, _, _, _, _, e, _⟩ := h; rw [e]; rfl) | (obtain ⟨_, _, _, _, _, _, _, _, _, _, e, _⟩ := h; rw [e]; rfl) | (obtain ⟨_, _, _, _, _, _, _, _, _, _, _, e, _⟩ := h; rw [e]; rfl) | (obtain ⟨_, _, _, _, _, _, _, _, _, _, _, _, e, _⟩ := h; rw [e]; rfl) | (obtain ⟨_, _, _, _, _, _, _, _, _, _, _, _, _, e, _⟩ := h; rw [e]; rfl) | (obtain ⟨_, _, _, _, _, _, _, _, _, _, _, _, _, _, e, _⟩ := h; rw [e]; rfl) | (obtain ⟨_, _, _, _, _, _, _, _, _, _, _, _, _, _, _, e, _⟩ := h; rw [e]; rfl) | (obtain ⟨_, _, _, _, _, _, _, _, _, _, _, _, _, _, _, _, e, _⟩ := h; rw [e]; rfl)
  · intro cdv A outer sh H E hr
    exact (ss_one (s_ret (e_ix (de_v 1) (de_call G_law_below (hr.mono (by decide)) D_law_below.g D_law_below.fn.kp D_law_below.b (takes_of rfl rfl rfl rfl) (da_cons (de_v 0) (da_cons (b_len T.b_len (da_cons (de_v 1) da_nil)) da_nil))))))
/-! _law_one -/
theorem ok_law_one {f : Addr} {fd : FuncData} (FF : FunD K "_law_one" "_law_one" (defArgs s_law_one) (defBody s_law_one) (defScope s_law_one) [] [] f fd) (T : Tx K mg cl) {a_law_below : Addr} {d_law_below : FuncData} (D_law_below : Dn K mg "_law_below" s_law_below ["_law_d", "_law_size"] [] [] a_law_below d_law_below) (G_law_below : FnOk P w K mg base (L2.CX P w) 3 a_law_below d_law_below ["_law_d", "_law_size"] (upSp ⟨K, cG, cl⟩ sp_law_below)) {a_law_pick : Addr} {d_law_pick : FuncData} (D_law_pick : Dn K mg "_law_pick" s_law_pick ["_law_d", "_law_items"] [] [] a_law_pick d_law_pick) (G_law_pick : FnOk P w K mg base (L2.CX P w) 4 a_law_pick d_law_pick ["_law_d", "_law_items"] (upSp ⟨K, cG, cl⟩ sp_law_pick)) : FnOk P w K mg base (L2.CX P w) 5 f fd ["_law_d"] (upSp ⟨K, cG, cl⟩ sp_law_one) := by
  refine fn_okF (d := d_law_one) FF sc_law_one (fun ys M X P h => ?_) ?_ (pure_law_one)
  · first | (obtain ⟨_, e, _⟩ := h; rw [e]; rfl) | (obtain ⟨_, _, e, _⟩ := h; rw [e]; rfl) | (obtain ⟨_, _, _, e, _⟩ := h; rw [e]; rfl) | (obtain ⟨_, _, _, _, e, _⟩ := h; rw [e]; rfl) | (obtain ⟨_, _, _, _, _, e, _⟩ := h; rw [e]; rfl) | (obtain ⟨_, _, _, _, _, _, e, _⟩ := h; rw [e]; rfl) | (obtain ⟨_, _, _, _, _, _, _, e, _⟩ := h; rw [e]; rfl) | (obtain ⟨_, _, _, _, _, _, _, _, e, _⟩ := h; rw [e]; rfl) | (obtain ⟨_, _, _, _, _, _, _, _, _, e, _⟩ := h; rw [e]; rfl) | (obtain ⟨_, _, _, _, _, _, _, _, _, _, e, _⟩ := h; rw [e]; rfl) | (obtain ⟨_, _, _, _, _, _, _, _, _, _, _, e, _⟩ := h; rw [e]; rfl) | (obtain ⟨_, _, _, _, _, _, _, _, _, _, _, _, e, _⟩ := h; rw [e]; rfl) | (obtain ⟨_, _, _, _, _, _, _, _, _, _, _, _, _, e, _⟩ := h; rw [e]; rfl) | (obtain ⟨_, _, _, _, _, _, _, _, _, _, _, _, _, _, e, _⟩ := h; rw [e]; rfl) | (obtain ⟨_, _, _, _, _, _, _, _, _, _, _, _, _, _, _, e, _⟩ := h; rw [e]; rfl) | (obtain ⟨_, _, _, _, _, _, _, _, _, _, _, _, _, _, _, _, e, _⟩ := h; rw [e]; rfl)
  · intro cdv A outer sh H E hr
    exact (ss_cons (s_par (i := 1) (j := 2) rfl sc_law_one.nd (da_cons (de_call G_law_pick (hr.mono (by decide)) D_law_pick.g D_law_pick.fn.kp D_law_pick.b (takes_of rfl rfl rfl rfl) (da_cons (de_v 0) (da_cons (de_lst (da_cons de_int (da_cons (e_neg de_int) (da_cons de_non (da_cons de_str (da_cons (de_tup da_nil) da_nil)))))) da_nil))) (da_cons (de_call G_law_below (hr.mono (by decide)) D_law_below.g D_law_below.fn.kp D_law_below.b (takes_of rfl rfl rfl rfl) (da_cons (de_v 0) (da_cons de_int da_nil))) da_nil)))
  (ss_cons (s_if (t_eq hr.units (de_v 2) de_int) (ss_cons (s_set (i := 3) sc_law_one.nd (de_newW hr T.e_BadText (de_v 1)))
  (ss_one (s_ret (de_tup (da_cons (de_v 3) (da_cons (e_eq hr.units (de_xget T.xg_word (de_v 3)) (de_v 1)) da_nil)))))) ss_nil)
  (ss_cons (s_set (i := 3) sc_law_one.nd (e_ix (de_lst (da_cons (de_newI hr T.e_BadRows (de_v 1)) (da_cons (de_newI hr T.e_BadSeen (de_v 1)) (da_cons (de_newI hr T.e_BadSteps (de_v 1)) (da_cons (de_newI hr T.e_BadSweets (de_v 1)) da_nil))))) (de_v 2)))
  (ss_one (s_ret (de_tup (da_cons (de_v 3) (da_cons (e_eq hr.units (de_xget T.xg_index (de_v 3)) (de_v 1)) da_nil))))))))
/-! _law_random -/
theorem ok_law_random {f : Addr} {fd : FuncData} (FF : FunD K "_law_random" "_law_random" (defArgs s_law_random) (defBody s_law_random) (defScope s_law_random) [] [] f fd) (T : Tx K mg cl) : FnOk P w K mg base (L2.CX P w) 3 f fd ["_law_script", "_law_salt"] (upSp ⟨K, cG, cl⟩ sp_law_random) := by
  refine fn_okF (d := d_law_random) FF sc_law_random (fun ys M X P h => ?_) ?_ (pure_law_random)
  · first | (obtain ⟨_, e, _⟩ := h; rw [e]; rfl) | (obtain ⟨_, _, e, _⟩ := h; rw [e]; rfl) | (obtain ⟨_, _, _, e, _⟩ := h; rw [e]; rfl) | (obtain ⟨_, _, _, _, e, _⟩ := h; rw [e]; rfl) | (obtain ⟨_, _, _, _, _, e, _⟩ := h; rw [e]; rfl) | (obtain ⟨_, _, _, _, _, _, e, _⟩ := h; rw [e]; rfl) | (obtain ⟨_, _, _, _, _, _, _, e, _⟩ := h; rw [e]; rfl) | (obtain ⟨_, _, _, _, _, _, _, _, e, _⟩ := h; rw [e]; rfl) | (obtain ⟨_, _, _, _, _, _, _, _, _, e, _⟩ := h; rw [e]; rfl) | (obtain ⟨_, _, _, _, _, _, _, _, _, _, e, _⟩ := h; rw [e]; rfl) | (obtain ⟨_, _, _, _, _, _, _, _, _, _, _, e, _⟩ := h; rw [e]; rfl) | (obtain ⟨_, _, _, _, _, _, _, _, _, _, _, _, e, _⟩ := h; rw [e]; rfl) | (obtain ⟨_, _, _, _, _, _, _, _, _, _, _, _, _, e, _⟩ := h; rw [e]; rfl) | (obtain ⟨_, _, _, _, _, _, _, _, _, _, _, _, _, _, e, _⟩ := h; rw [e]; rfl) | (obtain ⟨_, _, _, _, _, _, _, _, _, _, _, _, _, _, _, e, _⟩ := h; rw [e]; rfl) | (obtain ⟨_, _, _, _, _, _, _, _, _, _, _, _, _, _, _, _, e, _⟩ := h; rw [e]; rfl)
  · intro cdv A outer sh H E hr
    exact (ss_cons (s_set (i := 2) sc_law_random.nd (de_v 1))
  (ss_cons (s_for (passes_of rfl) rfl (i_scr (de_v 0)) (g_name (i := 3) sc_law_random.nd) (ss_one (s_set (i := 2) sc_law_random.nd (e_mod (b_int T.b_int (da_cons (e_add (e_mul (de_v 2) de_int) (b_abs T.b_abs (da_cons (de_v 3) da_nil))) da_nil)) de_int))))
  (ss_one (s_ret (de_toRng (de_newCat (de_lst (da_cons (de_v 2) (da_cons de_int da_nil))) (de_lc (own := [("_law_cell", 3)]) rfl sc_law_random.nd (tgt_name (by decide)) (i_scr (de_v 0)) (blkOk_by (own := [("_law_cell", 3)]) (by kernel_rfl)) (fun _ _ _ _ _ => (pg_name (i := 3) sc_law_random.nd rfl (Or.inl rfl))) (fun _ _ _ _ _ => (dts_one (t_ge (de_v 3) (e_pow de_int de_int)))) (fun _ _ _ _ _ => (de_v 3)))))))))
/-! law -/
theorem ok_law {f : Addr} {fd : FuncData} (FF : FunD K "law" "law" (defArgs s_law) (defBody s_law) (defScope s_law) [] [] f fd) (T : Tx K mg cl) {a_law_classes : Addr} {d_law_classes : FuncData} (D_law_classes : Dn K mg "_law_classes" s_law_classes ["_law_error"] [] [] a_law_classes d_law_classes) (G_law_classes : FnOk P w K mg base (L2.CX P w) 3 a_law_classes d_law_classes ["_law_error"] (upSp ⟨K, cG, cl⟩ sp_law_classes)) {a_law_one : Addr} {d_law_one : FuncData} (D_law_one : Dn K mg "_law_one" s_law_one ["_law_d"] [] [] a_law_one d_law_one) (G_law_one : FnOk P w K mg base (L2.CX P w) 5 a_law_one d_law_one ["_law_d"] (upSp ⟨K, cG, cl⟩ sp_law_one)) {a_law_random : Addr} {d_law_random : FuncData} (D_law_random : Dn K mg "_law_random" s_law_random ["_law_script", "_law_salt"] [] [] a_law_random d_law_random) (G_law_random : FnOk P w K mg base (L2.CX P w) 3 a_law_random d_law_random ["_law_script", "_law_salt"] (upSp ⟨K, cG, cl⟩ sp_law_random)) : FnOk P w K mg base (L2.CX P w) 6 f fd ["_law_script"] (upSp ⟨K, cG, cl⟩ sp_law) := by
  refine fn_okF (d := d_law) FF sc_law (fun ys M X P h => ?_) ?_ (pure_law)
  · first | (obtain ⟨_, e, _⟩ := h; rw [e]; rfl) | (obtain ⟨_, _, e, _⟩ := h; rw [e]; rfl) | (obtain ⟨_, _, _, e, _⟩ := h; rw [e]; rfl) | (obtain ⟨_, _, _, _, e, _⟩ := h; rw [e]; rfl) | (obtain ⟨_, _, _, _, _, e, _⟩ := h; rw [e]; rfl) | (obtain ⟨_, _, _, _, _, _, e, _⟩ := h; rw [e]; rfl) | (obtain ⟨_, _, _, _, _, _, _, e, _⟩ := h; rw [e]; rfl) | (obtain ⟨_, _, _, _, _, _, _, _, e, _⟩ := h; rw [e]; rfl) | (obtain ⟨_, _, _, _, _, _, _, _, _, e, _⟩ := h; rw [e]; rfl) | (obtain ⟨_, _, _, _, _, _, _, _, _, _, e, _⟩ := h; rw [e]; rfl) | (obtain ⟨_, _, _, _, _, _, _, _, _, _, _, e, _⟩ := h; rw [e]; rfl) | (obtain ⟨_, _, _, _, _, _, _, _, _, _, _, _, e, _⟩ := h; rw [e]; rfl) | (obtain ⟨_, _, _, _, _, _, _, _, _, _, _, _, _, e, _⟩ := h; rw [e]; rfl) | (obtain ⟨_, _, _, _, _, _, _, _, _, _, _, _, _, _, e, _⟩ := h; rw [e]; rfl) | (obtain ⟨_, _, _, _, _, _, _, _, _, _, _, _, _, _, _, e, _⟩ := h; rw [e]; rfl) | (obtain ⟨_, _, _, _, _, _, _, _, _, _, _, _, _, _, _, _, e, _⟩ := h; rw [e]; rfl)
  · intro cdv A outer sh H E hr
    exact (ss_cons (s_set (i := 1) sc_law.nd (de_call G_law_random (hr.mono (by decide)) D_law_random.g D_law_random.fn.kp D_law_random.b (takes_of rfl rfl rfl rfl) (da_cons (de_v 0) (da_cons de_int da_nil))))
  (ss_cons (s_for (passes_of rfl) rfl (i_rng1 T.b_range (da_cons de_int da_nil)) (g_name (i := 2) sc_law.nd) (ss_cons (s_asg (de_call G_law_one (hr.mono (by decide)) D_law_one.g D_law_one.fn.kp D_law_one.b (takes_of rfl rfl rfl rfl) (da_cons (de_v 1) da_nil)) (g_tup rfl (gs_cons (g_name (i := 3) sc_law.nd) (gs_cons (g_name (i := 4) sc_law.nd) gs_nil))))
  (ss_cons (s_if (PW.pt (dw_or (dt_not (dt_val (de_v 4))) (dw_or (t_ne hr.units (de_call G_law_classes (hr.mono (by decide)) D_law_classes.g D_law_classes.fn.kp D_law_classes.b (takes_of rfl rfl rfl rfl) (da_cons (de_v 3) da_nil)) de_int) (dw_or1 (dt_not (dt_val (b_isX T.xc T.xk T.b_isinstance (da_cons (de_v 3) (da_cons (de_ecl T.h_SweetError) da_nil))))))))) (ss_one (s_ret de_bl)) ss_nil)
  (ss_one (s_if (dt_not (dt_val (b_isV T.xc T.xv T.b_isinstance (da_cons (de_v 3) (da_cons (de_ty T.b_ValueError) da_nil))))) (ss_one (s_ret de_bl)) ss_nil)))))
  (ss_cons (s_set (i := 5) sc_law.nd (de_lst (da_cons (de_new0 T.e_BadChild) (da_cons (de_new0 T.e_BadChildren) (da_cons (de_new0 T.e_BadGift) (da_cons (de_new0 T.e_BadMost) (da_cons (de_new0 T.e_BadParts) (da_cons (de_new0 T.e_BadRounds) (da_cons (de_new0 T.e_TooMany) da_nil)))))))))
  (ss_one (s_ret (e_eq hr.units (de_lc (own := [("_law_one_here", 6)]) rfl sc_law.nd (tgt_name (by decide)) (i_lst (de_v 5)) (blkOk_by (own := [("_law_one_here", 6)]) (by kernel_rfl)) (fun _ _ _ _ _ => (pg_name (i := 6) sc_law.nd rfl (Or.inl rfl))) (fun _ _ _ _ _ => (dts_one (PW.pt (dw_or (t_ne hr.units (de_call G_law_classes (hr.mono (by decide)) D_law_classes.g D_law_classes.fn.kp D_law_classes.b takes0 (da_cons (de_v 6) da_nil)) de_int) (dw_or1 (dt_not (dt_val (b_isX T.xc T.xk T.b_isinstance (da_cons (de_v 6) (da_cons (de_ecl T.h_SweetError) da_nil)))))))))) (fun _ _ _ _ _ => (de_v 6))) (de_lst da_nil)))))))
end
/-! what the top has left, and the end -/
def clOf : List (Str × Addr) → Str → Addr
  | [], _ => 0
  | (n, a) :: r, s => if s = n then a else clOf r s
theorem all_mk {P : Program} {w : World} {K : PySem.W.Frag} {h : Heap} {mg : Str → Option Value} {fa f_law_classes f_law_below f_law_pick f_law_one f_law_random f_law e_SweetError e_BadChild e_BadChildren e_BadGift e_BadMost e_BadParts e_BadRounds e_BadRows f_i_BadRows e_BadSeen f_i_BadSeen e_BadSteps f_i_BadSteps e_BadSweets f_i_BadSweets e_BadText f_i_BadText e_TooMany : Addr} (X : K.In h) (GG : h.Ns mainGlobals mg) (hfa : mg "law" = some (.ref fa))
    {od_law_classes an_law_classes od_law_below an_law_below od_law_pick an_law_pick od_law_one an_law_one od_law_random an_law_random od_law an_law od_i_BadRows an_i_BadRows od_i_BadSeen an_i_BadSeen od_i_BadSteps an_i_BadSteps od_i_BadSweets an_i_BadSweets od_i_BadText an_i_BadText : Option Addr} {sl_law_classes sl_law_below sl_law_pick sl_law_one sl_law_random sl_law sl_i_BadRows sl_i_BadSeen sl_i_BadSteps sl_i_BadSweets sl_i_BadText : Array (Option Value)} {oc_law_classes kV_law_classes dc_law_classes pm_law_classes cd_law_classes ct_law_classes oc_law_below kV_law_below dc_law_below pm_law_below cd_law_below ct_law_below oc_law_pick kV_law_pick dc_law_pick pm_law_pick cd_law_pick ct_law_pick oc_law_one kV_law_one dc_law_one pm_law_one cd_law_one ct_law_one oc_law_random kV_law_random dc_law_random pm_law_random cd_law_random ct_law_random oc_law kV_law dc_law pm_law cd_law ct_law oc_i_BadRows dc_i_BadRows pm_i_BadRows cd_i_BadRows ct_i_BadRows oc_i_BadSeen dc_i_BadSeen pm_i_BadSeen cd_i_BadSeen ct_i_BadSeen oc_i_BadSteps dc_i_BadSteps pm_i_BadSteps cd_i_BadSteps ct_i_BadSteps oc_i_BadSweets dc_i_BadSweets pm_i_BadSweets cd_i_BadSweets ct_i_BadSweets oc_i_BadText dc_i_BadText pm_i_BadText cd_i_BadText ct_i_BadText : Value} {n1_BadRows n2_BadRows : Str} {n3_BadRows sS_BadRows : Addr} {bs_BadRows sub_BadRows : List Value} {sn_BadRows : List Str} {ab_BadRows : Bool} {col_BadRows : Option Bool} {dd_BadRows : Option Addr} {m0_BadRows m1_BadRows m2_BadRows m3_BadRows m5_BadRows : Option Value} {n1_BadSeen n2_BadSeen : Str} {n3_BadSeen sS_BadSeen : Addr} {bs_BadSeen sub_BadSeen : List Value} {sn_BadSeen : List Str} {ab_BadSeen : Bool} {col_BadSeen : Option Bool} {dd_BadSeen : Option Addr} {m0_BadSeen m1_BadSeen m2_BadSeen m3_BadSeen m5_BadSeen : Option Value} {n1_BadSteps n2_BadSteps : Str} {n3_BadSteps sS_BadSteps : Addr} {bs_BadSteps sub_BadSteps : List Value} {sn_BadSteps : List Str} {ab_BadSteps : Bool} {col_BadSteps : Option Bool} {dd_BadSteps : Option Addr} {m0_BadSteps m1_BadSteps m2_BadSteps m3_BadSteps m5_BadSteps : Option Value} {n1_BadSweets n2_BadSweets : Str} {n3_BadSweets sS_BadSweets : Addr} {bs_BadSweets sub_BadSweets : List Value} {sn_BadSweets : List Str} {ab_BadSweets : Bool} {col_BadSweets : Option Bool} {dd_BadSweets : Option Addr} {m0_BadSweets m1_BadSweets m2_BadSweets m3_BadSweets m5_BadSweets : Option Value} {n1_BadText n2_BadText : Str} {n3_BadText sS_BadText : Addr} {bs_BadText sub_BadText : List Value} {sn_BadText : List Str} {ab_BadText : Bool} {col_BadText : Option Bool} {dd_BadText : Option Addr} {m0_BadText m1_BadText m2_BadText m3_BadText m5_BadText : Option Value}
    (a_law_classes : PySem.W.nsIn K mainGlobals "_law_classes" = some (some (.ref f_law_classes)))
    (l_law_classes : K.lookup f_law_classes = some ⟨oc_law_classes, od_law_classes, .func (PySem.W.fnOf "_law_classes" "_law_classes" (defArgs s_law_classes) (defBody s_law_classes) (defScope s_law_classes) .none kV_law_classes dc_law_classes pm_law_classes an_law_classes cd_law_classes ct_law_classes), sl_law_classes⟩)
    (c_law_classes : PySem.W.codeIn K cd_law_classes "_law_classes" = true)
    (k_law_classes : PySem.W.keepIn K (.ref f_law_classes) = true)
    (a_law_below : PySem.W.nsIn K mainGlobals "_law_below" = some (some (.ref f_law_below)))
    (l_law_below : K.lookup f_law_below = some ⟨oc_law_below, od_law_below, .func (PySem.W.fnOf "_law_below" "_law_below" (defArgs s_law_below) (defBody s_law_below) (defScope s_law_below) .none kV_law_below dc_law_below pm_law_below an_law_below cd_law_below ct_law_below), sl_law_below⟩)
    (c_law_below : PySem.W.codeIn K cd_law_below "_law_below" = true)
    (k_law_below : PySem.W.keepIn K (.ref f_law_below) = true)
    (a_law_pick : PySem.W.nsIn K mainGlobals "_law_pick" = some (some (.ref f_law_pick)))
    (l_law_pick : K.lookup f_law_pick = some ⟨oc_law_pick, od_law_pick, .func (PySem.W.fnOf "_law_pick" "_law_pick" (defArgs s_law_pick) (defBody s_law_pick) (defScope s_law_pick) .none kV_law_pick dc_law_pick pm_law_pick an_law_pick cd_law_pick ct_law_pick), sl_law_pick⟩)
    (c_law_pick : PySem.W.codeIn K cd_law_pick "_law_pick" = true)
    (k_law_pick : PySem.W.keepIn K (.ref f_law_pick) = true)
    (a_law_one : PySem.W.nsIn K mainGlobals "_law_one" = some (some (.ref f_law_one)))
    (l_law_one : K.lookup f_law_one = some ⟨oc_law_one, od_law_one, .func (PySem.W.fnOf "_law_one" "_law_one" (defArgs s_law_one) (defBody s_law_one) (defScope s_law_one) .none kV_law_one dc_law_one pm_law_one an_law_one cd_law_one ct_law_one), sl_law_one⟩)
    (c_law_one : PySem.W.codeIn K cd_law_one "_law_one" = true)
    (k_law_one : PySem.W.keepIn K (.ref f_law_one) = true)
    (a_law_random : PySem.W.nsIn K mainGlobals "_law_random" = some (some (.ref f_law_random)))
    (l_law_random : K.lookup f_law_random = some ⟨oc_law_random, od_law_random, .func (PySem.W.fnOf "_law_random" "_law_random" (defArgs s_law_random) (defBody s_law_random) (defScope s_law_random) .none kV_law_random dc_law_random pm_law_random an_law_random cd_law_random ct_law_random), sl_law_random⟩)
    (c_law_random : PySem.W.codeIn K cd_law_random "_law_random" = true)
    (k_law_random : PySem.W.keepIn K (.ref f_law_random) = true)
    (a_law : PySem.W.nsIn K mainGlobals "law" = some (some (.ref f_law)))
    (l_law : K.lookup f_law = some ⟨oc_law, od_law, .func (PySem.W.fnOf "law" "law" (defArgs s_law) (defBody s_law) (defScope s_law) .none kV_law dc_law pm_law an_law cd_law ct_law), sl_law⟩)
    (c_law : PySem.W.codeIn K cd_law "law" = true)
    (k_law : PySem.W.keepIn K (.ref f_law) = true)
    (z_ValueError : PySem.W.nsIn K mainGlobals "ValueError" = some none)
    (z_abs : PySem.W.nsIn K mainGlobals "abs" = some none)
    (z_int : PySem.W.nsIn K mainGlobals "int" = some none)
    (z_isinstance : PySem.W.nsIn K mainGlobals "isinstance" = some none)
    (z_len : PySem.W.nsIn K mainGlobals "len" = some none)
    (z_range : PySem.W.nsIn K mainGlobals "range" = some none)
    (ea_SweetError : PySem.W.nsIn K mainGlobals "SweetError" = some (some (.ref e_SweetError)))
    (es_SweetError : PySem.W.subIn K (.ref e_SweetError) (.type "BaseException") = some true)
    (et_SweetError : PySem.W.typeIn K (.ref e_SweetError) = some (.type "type"))
    (ea_BadChild : PySem.W.nsIn K mainGlobals "BadChild" = some (some (.ref e_BadChild)))
    (ek_BadChild : PySem.W.keepIn K (.ref e_BadChild) = true)
    (es_BadChild : PySem.W.subIn K (.ref e_BadChild) (.type "BaseException") = some true)
    (et_BadChild : PySem.W.typeIn K (.ref e_BadChild) = some (.type "type"))
    (eq_BadChild : PySem.W.excIn K e_BadChild [.type "ValueError", .type "Exception", .type "BaseException", .type "object"] "ValueError.__new__" = true)
    (ea_BadChildren : PySem.W.nsIn K mainGlobals "BadChildren" = some (some (.ref e_BadChildren)))
    (ek_BadChildren : PySem.W.keepIn K (.ref e_BadChildren) = true)
    (es_BadChildren : PySem.W.subIn K (.ref e_BadChildren) (.type "BaseException") = some true)
    (et_BadChildren : PySem.W.typeIn K (.ref e_BadChildren) = some (.type "type"))
    (eq_BadChildren : PySem.W.excIn K e_BadChildren [.type "ValueError", .type "Exception", .type "BaseException", .type "object"] "ValueError.__new__" = true)
    (ea_BadGift : PySem.W.nsIn K mainGlobals "BadGift" = some (some (.ref e_BadGift)))
    (ek_BadGift : PySem.W.keepIn K (.ref e_BadGift) = true)
    (es_BadGift : PySem.W.subIn K (.ref e_BadGift) (.type "BaseException") = some true)
    (et_BadGift : PySem.W.typeIn K (.ref e_BadGift) = some (.type "type"))
    (eq_BadGift : PySem.W.excIn K e_BadGift [.type "ValueError", .type "Exception", .type "BaseException", .type "object"] "ValueError.__new__" = true)
    (ea_BadMost : PySem.W.nsIn K mainGlobals "BadMost" = some (some (.ref e_BadMost)))
    (ek_BadMost : PySem.W.keepIn K (.ref e_BadMost) = true)
    (es_BadMost : PySem.W.subIn K (.ref e_BadMost) (.type "BaseException") = some true)
    (et_BadMost : PySem.W.typeIn K (.ref e_BadMost) = some (.type "type"))
    (eq_BadMost : PySem.W.excIn K e_BadMost [.type "ValueError", .type "Exception", .type "BaseException", .type "object"] "ValueError.__new__" = true)
    (ea_BadParts : PySem.W.nsIn K mainGlobals "BadParts" = some (some (.ref e_BadParts)))
    (ek_BadParts : PySem.W.keepIn K (.ref e_BadParts) = true)
    (es_BadParts : PySem.W.subIn K (.ref e_BadParts) (.type "BaseException") = some true)
    (et_BadParts : PySem.W.typeIn K (.ref e_BadParts) = some (.type "type"))
    (eq_BadParts : PySem.W.excIn K e_BadParts [.type "ValueError", .type "Exception", .type "BaseException", .type "object"] "ValueError.__new__" = true)
    (ea_BadRounds : PySem.W.nsIn K mainGlobals "BadRounds" = some (some (.ref e_BadRounds)))
    (ek_BadRounds : PySem.W.keepIn K (.ref e_BadRounds) = true)
    (es_BadRounds : PySem.W.subIn K (.ref e_BadRounds) (.type "BaseException") = some true)
    (et_BadRounds : PySem.W.typeIn K (.ref e_BadRounds) = some (.type "type"))
    (eq_BadRounds : PySem.W.excIn K e_BadRounds [.type "ValueError", .type "Exception", .type "BaseException", .type "object"] "ValueError.__new__" = true)
    (ea_BadRows : PySem.W.nsIn K mainGlobals "BadRows" = some (some (.ref e_BadRows)))
    (ek_BadRows : PySem.W.keepIn K (.ref e_BadRows) = true)
    (es_BadRows : PySem.W.subIn K (.ref e_BadRows) (.type "BaseException") = some true)
    (et_BadRows : PySem.W.typeIn K (.ref e_BadRows) = some (.type "type"))
    (a_i_BadRows : PySem.W.findIn K (.ref e_BadRows) "__init__" = some (some (.ref f_i_BadRows)))
    (l_i_BadRows : K.lookup f_i_BadRows = some ⟨oc_i_BadRows, od_i_BadRows, .func (PySem.W.fnOf "__init__" "BadRows.__init__" (defArgs s_e_BadRows) (defBody s_e_BadRows) (defScope s_e_BadRows) .none .none dc_i_BadRows pm_i_BadRows an_i_BadRows cd_i_BadRows ct_i_BadRows), sl_i_BadRows⟩)
    (c_i_BadRows : PySem.W.codeIn K cd_i_BadRows "BadRows.__init__" = true)
    (k_i_BadRows : PySem.W.keepIn K (.ref f_i_BadRows) = true)
    (ty_BadRows : PySem.W.typeIn K (.ref f_i_BadRows) = some (.type "function"))
    (ex_BadRows : K.lookup e_BadRows = some (excClassObj n1_BadRows n2_BadRows e_BadRows n3_BadRows bs_BadRows [.ref sS_BadRows, .type "ValueError", .type "Exception", .type "BaseException", .type "object"] true sn_BadRows sub_BadRows ab_BadRows col_BadRows dd_BadRows m0_BadRows m1_BadRows m2_BadRows m3_BadRows m5_BadRows "ValueError.__new__"))
    (esa_BadRows : PySem.W.findIn K (.ref e_BadRows) "__setattr__" = some (some (.builtin "object.__setattr__")))
    (ega_BadRows : PySem.W.findIn K (.ref e_BadRows) "__getattribute__" = some (some (.builtin "BaseException.__getattribute__")))
    (egg_BadRows : PySem.W.findIn K (.ref e_BadRows) "__getattr__" = some none)
    (enb_BadRows : PySem.W.findIn K (.ref e_BadRows) "index" = some none)
    (ehd_BadRows : PySem.W.hasDictIn K e_BadRows = true)
    (ea_BadSeen : PySem.W.nsIn K mainGlobals "BadSeen" = some (some (.ref e_BadSeen)))
    (ek_BadSeen : PySem.W.keepIn K (.ref e_BadSeen) = true)
    (es_BadSeen : PySem.W.subIn K (.ref e_BadSeen) (.type "BaseException") = some true)
    (et_BadSeen : PySem.W.typeIn K (.ref e_BadSeen) = some (.type "type"))
    (a_i_BadSeen : PySem.W.findIn K (.ref e_BadSeen) "__init__" = some (some (.ref f_i_BadSeen)))
    (l_i_BadSeen : K.lookup f_i_BadSeen = some ⟨oc_i_BadSeen, od_i_BadSeen, .func (PySem.W.fnOf "__init__" "BadSeen.__init__" (defArgs s_e_BadSeen) (defBody s_e_BadSeen) (defScope s_e_BadSeen) .none .none dc_i_BadSeen pm_i_BadSeen an_i_BadSeen cd_i_BadSeen ct_i_BadSeen), sl_i_BadSeen⟩)
    (c_i_BadSeen : PySem.W.codeIn K cd_i_BadSeen "BadSeen.__init__" = true)
    (k_i_BadSeen : PySem.W.keepIn K (.ref f_i_BadSeen) = true)
    (ty_BadSeen : PySem.W.typeIn K (.ref f_i_BadSeen) = some (.type "function"))
    (ex_BadSeen : K.lookup e_BadSeen = some (excClassObj n1_BadSeen n2_BadSeen e_BadSeen n3_BadSeen bs_BadSeen [.ref sS_BadSeen, .type "ValueError", .type "Exception", .type "BaseException", .type "object"] true sn_BadSeen sub_BadSeen ab_BadSeen col_BadSeen dd_BadSeen m0_BadSeen m1_BadSeen m2_BadSeen m3_BadSeen m5_BadSeen "ValueError.__new__"))
    (esa_BadSeen : PySem.W.findIn K (.ref e_BadSeen) "__setattr__" = some (some (.builtin "object.__setattr__")))
    (ega_BadSeen : PySem.W.findIn K (.ref e_BadSeen) "__getattribute__" = some (some (.builtin "BaseException.__getattribute__")))
    (egg_BadSeen : PySem.W.findIn K (.ref e_BadSeen) "__getattr__" = some none)
    (enb_BadSeen : PySem.W.findIn K (.ref e_BadSeen) "index" = some none)
    (ehd_BadSeen : PySem.W.hasDictIn K e_BadSeen = true)
    (ea_BadSteps : PySem.W.nsIn K mainGlobals "BadSteps" = some (some (.ref e_BadSteps)))
    (ek_BadSteps : PySem.W.keepIn K (.ref e_BadSteps) = true)
    (es_BadSteps : PySem.W.subIn K (.ref e_BadSteps) (.type "BaseException") = some true)
    (et_BadSteps : PySem.W.typeIn K (.ref e_BadSteps) = some (.type "type"))
    (a_i_BadSteps : PySem.W.findIn K (.ref e_BadSteps) "__init__" = some (some (.ref f_i_BadSteps)))
    (l_i_BadSteps : K.lookup f_i_BadSteps = some ⟨oc_i_BadSteps, od_i_BadSteps, .func (PySem.W.fnOf "__init__" "BadSteps.__init__" (defArgs s_e_BadSteps) (defBody s_e_BadSteps) (defScope s_e_BadSteps) .none .none dc_i_BadSteps pm_i_BadSteps an_i_BadSteps cd_i_BadSteps ct_i_BadSteps), sl_i_BadSteps⟩)
    (c_i_BadSteps : PySem.W.codeIn K cd_i_BadSteps "BadSteps.__init__" = true)
    (k_i_BadSteps : PySem.W.keepIn K (.ref f_i_BadSteps) = true)
    (ty_BadSteps : PySem.W.typeIn K (.ref f_i_BadSteps) = some (.type "function"))
    (ex_BadSteps : K.lookup e_BadSteps = some (excClassObj n1_BadSteps n2_BadSteps e_BadSteps n3_BadSteps bs_BadSteps [.ref sS_BadSteps, .type "ValueError", .type "Exception", .type "BaseException", .type "object"] true sn_BadSteps sub_BadSteps ab_BadSteps col_BadSteps dd_BadSteps m0_BadSteps m1_BadSteps m2_BadSteps m3_BadSteps m5_BadSteps "ValueError.__new__"))
    (esa_BadSteps : PySem.W.findIn K (.ref e_BadSteps) "__setattr__" = some (some (.builtin "object.__setattr__")))
    (ega_BadSteps : PySem.W.findIn K (.ref e_BadSteps) "__getattribute__" = some (some (.builtin "BaseException.__getattribute__")))
    (egg_BadSteps : PySem.W.findIn K (.ref e_BadSteps) "__getattr__" = some none)
    (enb_BadSteps : PySem.W.findIn K (.ref e_BadSteps) "index" = some none)
    (ehd_BadSteps : PySem.W.hasDictIn K e_BadSteps = true)
    (ea_BadSweets : PySem.W.nsIn K mainGlobals "BadSweets" = some (some (.ref e_BadSweets)))
    (ek_BadSweets : PySem.W.keepIn K (.ref e_BadSweets) = true)
    (es_BadSweets : PySem.W.subIn K (.ref e_BadSweets) (.type "BaseException") = some true)
    (et_BadSweets : PySem.W.typeIn K (.ref e_BadSweets) = some (.type "type"))
    (a_i_BadSweets : PySem.W.findIn K (.ref e_BadSweets) "__init__" = some (some (.ref f_i_BadSweets)))
    (l_i_BadSweets : K.lookup f_i_BadSweets = some ⟨oc_i_BadSweets, od_i_BadSweets, .func (PySem.W.fnOf "__init__" "BadSweets.__init__" (defArgs s_e_BadSweets) (defBody s_e_BadSweets) (defScope s_e_BadSweets) .none .none dc_i_BadSweets pm_i_BadSweets an_i_BadSweets cd_i_BadSweets ct_i_BadSweets), sl_i_BadSweets⟩)
    (c_i_BadSweets : PySem.W.codeIn K cd_i_BadSweets "BadSweets.__init__" = true)
    (k_i_BadSweets : PySem.W.keepIn K (.ref f_i_BadSweets) = true)
    (ty_BadSweets : PySem.W.typeIn K (.ref f_i_BadSweets) = some (.type "function"))
    (ex_BadSweets : K.lookup e_BadSweets = some (excClassObj n1_BadSweets n2_BadSweets e_BadSweets n3_BadSweets bs_BadSweets [.ref sS_BadSweets, .type "ValueError", .type "Exception", .type "BaseException", .type "object"] true sn_BadSweets sub_BadSweets ab_BadSweets col_BadSweets dd_BadSweets m0_BadSweets m1_BadSweets m2_BadSweets m3_BadSweets m5_BadSweets "ValueError.__new__"))
    (esa_BadSweets : PySem.W.findIn K (.ref e_BadSweets) "__setattr__" = some (some (.builtin "object.__setattr__")))
    (ega_BadSweets : PySem.W.findIn K (.ref e_BadSweets) "__getattribute__" = some (some (.builtin "BaseException.__getattribute__")))
    (egg_BadSweets : PySem.W.findIn K (.ref e_BadSweets) "__getattr__" = some none)
    (enb_BadSweets : PySem.W.findIn K (.ref e_BadSweets) "index" = some none)
    (ehd_BadSweets : PySem.W.hasDictIn K e_BadSweets = true)
    (ea_BadText : PySem.W.nsIn K mainGlobals "BadText" = some (some (.ref e_BadText)))
    (ek_BadText : PySem.W.keepIn K (.ref e_BadText) = true)
    (es_BadText : PySem.W.subIn K (.ref e_BadText) (.type "BaseException") = some true)
    (et_BadText : PySem.W.typeIn K (.ref e_BadText) = some (.type "type"))
    (a_i_BadText : PySem.W.findIn K (.ref e_BadText) "__init__" = some (some (.ref f_i_BadText)))
    (l_i_BadText : K.lookup f_i_BadText = some ⟨oc_i_BadText, od_i_BadText, .func (PySem.W.fnOf "__init__" "BadText.__init__" (defArgs s_e_BadText) (defBody s_e_BadText) (defScope s_e_BadText) .none .none dc_i_BadText pm_i_BadText an_i_BadText cd_i_BadText ct_i_BadText), sl_i_BadText⟩)
    (c_i_BadText : PySem.W.codeIn K cd_i_BadText "BadText.__init__" = true)
    (k_i_BadText : PySem.W.keepIn K (.ref f_i_BadText) = true)
    (ty_BadText : PySem.W.typeIn K (.ref f_i_BadText) = some (.type "function"))
    (ex_BadText : K.lookup e_BadText = some (excClassObj n1_BadText n2_BadText e_BadText n3_BadText bs_BadText [.ref sS_BadText, .type "ValueError", .type "Exception", .type "BaseException", .type "object"] true sn_BadText sub_BadText ab_BadText col_BadText dd_BadText m0_BadText m1_BadText m2_BadText m3_BadText m5_BadText "ValueError.__new__"))
    (esa_BadText : PySem.W.findIn K (.ref e_BadText) "__setattr__" = some (some (.builtin "object.__setattr__")))
    (ega_BadText : PySem.W.findIn K (.ref e_BadText) "__getattribute__" = some (some (.builtin "BaseException.__getattribute__")))
    (egg_BadText : PySem.W.findIn K (.ref e_BadText) "__getattr__" = some none)
    (enb_BadText : PySem.W.findIn K (.ref e_BadText) "word" = some none)
    (ehd_BadText : PySem.W.hasDictIn K e_BadText = true)
    (ea_TooMany : PySem.W.nsIn K mainGlobals "TooMany" = some (some (.ref e_TooMany)))
    (ek_TooMany : PySem.W.keepIn K (.ref e_TooMany) = true)
    (es_TooMany : PySem.W.subIn K (.ref e_TooMany) (.type "BaseException") = some true)
    (et_TooMany : PySem.W.typeIn K (.ref e_TooMany) = some (.type "type"))
    (eq_TooMany : PySem.W.excIn K e_TooMany [.type "ValueError", .type "Exception", .type "BaseException", .type "object"] "ValueError.__new__" = true)
    (xi_BadChildren : PySem.W.isClsIn K e_BadChildren = true)
    (xs_BadChildren_BadChildren : PySem.W.subIn K (.ref e_BadChildren) (.ref e_BadChildren) = some true)
    (xs_BadParts_BadChildren : PySem.W.subIn K (.ref e_BadParts) (.ref e_BadChildren) = some false)
    (xs_BadSteps_BadChildren : PySem.W.subIn K (.ref e_BadSteps) (.ref e_BadChildren) = some false)
    (xs_BadSweets_BadChildren : PySem.W.subIn K (.ref e_BadSweets) (.ref e_BadChildren) = some false)
    (xs_BadRounds_BadChildren : PySem.W.subIn K (.ref e_BadRounds) (.ref e_BadChildren) = some false)
    (xs_BadMost_BadChildren : PySem.W.subIn K (.ref e_BadMost) (.ref e_BadChildren) = some false)
    (xs_BadRows_BadChildren : PySem.W.subIn K (.ref e_BadRows) (.ref e_BadChildren) = some false)
    (xs_BadSeen_BadChildren : PySem.W.subIn K (.ref e_BadSeen) (.ref e_BadChildren) = some false)
    (xs_TooMany_BadChildren : PySem.W.subIn K (.ref e_TooMany) (.ref e_BadChildren) = some false)
    (xs_BadChild_BadChildren : PySem.W.subIn K (.ref e_BadChild) (.ref e_BadChildren) = some false)
    (xs_BadGift_BadChildren : PySem.W.subIn K (.ref e_BadGift) (.ref e_BadChildren) = some false)
    (xs_BadText_BadChildren : PySem.W.subIn K (.ref e_BadText) (.ref e_BadChildren) = some false)
    (xi_BadParts : PySem.W.isClsIn K e_BadParts = true)
    (xs_BadChildren_BadParts : PySem.W.subIn K (.ref e_BadChildren) (.ref e_BadParts) = some false)
    (xs_BadParts_BadParts : PySem.W.subIn K (.ref e_BadParts) (.ref e_BadParts) = some true)
    (xs_BadSteps_BadParts : PySem.W.subIn K (.ref e_BadSteps) (.ref e_BadParts) = some false)
    (xs_BadSweets_BadParts : PySem.W.subIn K (.ref e_BadSweets) (.ref e_BadParts) = some false)
    (xs_BadRounds_BadParts : PySem.W.subIn K (.ref e_BadRounds) (.ref e_BadParts) = some false)
    (xs_BadMost_BadParts : PySem.W.subIn K (.ref e_BadMost) (.ref e_BadParts) = some false)
    (xs_BadRows_BadParts : PySem.W.subIn K (.ref e_BadRows) (.ref e_BadParts) = some false)
    (xs_BadSeen_BadParts : PySem.W.subIn K (.ref e_BadSeen) (.ref e_BadParts) = some false)
    (xs_TooMany_BadParts : PySem.W.subIn K (.ref e_TooMany) (.ref e_BadParts) = some false)
    (xs_BadChild_BadParts : PySem.W.subIn K (.ref e_BadChild) (.ref e_BadParts) = some false)
    (xs_BadGift_BadParts : PySem.W.subIn K (.ref e_BadGift) (.ref e_BadParts) = some false)
    (xs_BadText_BadParts : PySem.W.subIn K (.ref e_BadText) (.ref e_BadParts) = some false)
    (xi_BadSteps : PySem.W.isClsIn K e_BadSteps = true)
    (xs_BadChildren_BadSteps : PySem.W.subIn K (.ref e_BadChildren) (.ref e_BadSteps) = some false)
    (xs_BadParts_BadSteps : PySem.W.subIn K (.ref e_BadParts) (.ref e_BadSteps) = some false)
    (xs_BadSteps_BadSteps : PySem.W.subIn K (.ref e_BadSteps) (.ref e_BadSteps) = some true)
    (xs_BadSweets_BadSteps : PySem.W.subIn K (.ref e_BadSweets) (.ref e_BadSteps) = some false)
    (xs_BadRounds_BadSteps : PySem.W.subIn K (.ref e_BadRounds) (.ref e_BadSteps) = some false)
    (xs_BadMost_BadSteps : PySem.W.subIn K (.ref e_BadMost) (.ref e_BadSteps) = some false)
    (xs_BadRows_BadSteps : PySem.W.subIn K (.ref e_BadRows) (.ref e_BadSteps) = some false)
    (xs_BadSeen_BadSteps : PySem.W.subIn K (.ref e_BadSeen) (.ref e_BadSteps) = some false)
    (xs_TooMany_BadSteps : PySem.W.subIn K (.ref e_TooMany) (.ref e_BadSteps) = some false)
    (xs_BadChild_BadSteps : PySem.W.subIn K (.ref e_BadChild) (.ref e_BadSteps) = some false)
    (xs_BadGift_BadSteps : PySem.W.subIn K (.ref e_BadGift) (.ref e_BadSteps) = some false)
    (xs_BadText_BadSteps : PySem.W.subIn K (.ref e_BadText) (.ref e_BadSteps) = some false)
    (xi_BadSweets : PySem.W.isClsIn K e_BadSweets = true)
    (xs_BadChildren_BadSweets : PySem.W.subIn K (.ref e_BadChildren) (.ref e_BadSweets) = some false)
    (xs_BadParts_BadSweets : PySem.W.subIn K (.ref e_BadParts) (.ref e_BadSweets) = some false)
    (xs_BadSteps_BadSweets : PySem.W.subIn K (.ref e_BadSteps) (.ref e_BadSweets) = some false)
    (xs_BadSweets_BadSweets : PySem.W.subIn K (.ref e_BadSweets) (.ref e_BadSweets) = some true)
    (xs_BadRounds_BadSweets : PySem.W.subIn K (.ref e_BadRounds) (.ref e_BadSweets) = some false)
    (xs_BadMost_BadSweets : PySem.W.subIn K (.ref e_BadMost) (.ref e_BadSweets) = some false)
    (xs_BadRows_BadSweets : PySem.W.subIn K (.ref e_BadRows) (.ref e_BadSweets) = some false)
    (xs_BadSeen_BadSweets : PySem.W.subIn K (.ref e_BadSeen) (.ref e_BadSweets) = some false)
    (xs_TooMany_BadSweets : PySem.W.subIn K (.ref e_TooMany) (.ref e_BadSweets) = some false)
    (xs_BadChild_BadSweets : PySem.W.subIn K (.ref e_BadChild) (.ref e_BadSweets) = some false)
    (xs_BadGift_BadSweets : PySem.W.subIn K (.ref e_BadGift) (.ref e_BadSweets) = some false)
    (xs_BadText_BadSweets : PySem.W.subIn K (.ref e_BadText) (.ref e_BadSweets) = some false)
    (xi_BadRounds : PySem.W.isClsIn K e_BadRounds = true)
    (xs_BadChildren_BadRounds : PySem.W.subIn K (.ref e_BadChildren) (.ref e_BadRounds) = some false)
    (xs_BadParts_BadRounds : PySem.W.subIn K (.ref e_BadParts) (.ref e_BadRounds) = some false)
    (xs_BadSteps_BadRounds : PySem.W.subIn K (.ref e_BadSteps) (.ref e_BadRounds) = some false)
    (xs_BadSweets_BadRounds : PySem.W.subIn K (.ref e_BadSweets) (.ref e_BadRounds) = some false)
    (xs_BadRounds_BadRounds : PySem.W.subIn K (.ref e_BadRounds) (.ref e_BadRounds) = some true)
    (xs_BadMost_BadRounds : PySem.W.subIn K (.ref e_BadMost) (.ref e_BadRounds) = some false)
    (xs_BadRows_BadRounds : PySem.W.subIn K (.ref e_BadRows) (.ref e_BadRounds) = some false)
    (xs_BadSeen_BadRounds : PySem.W.subIn K (.ref e_BadSeen) (.ref e_BadRounds) = some false)
    (xs_TooMany_BadRounds : PySem.W.subIn K (.ref e_TooMany) (.ref e_BadRounds) = some false)
    (xs_BadChild_BadRounds : PySem.W.subIn K (.ref e_BadChild) (.ref e_BadRounds) = some false)
    (xs_BadGift_BadRounds : PySem.W.subIn K (.ref e_BadGift) (.ref e_BadRounds) = some false)
    (xs_BadText_BadRounds : PySem.W.subIn K (.ref e_BadText) (.ref e_BadRounds) = some false)
    (xi_BadMost : PySem.W.isClsIn K e_BadMost = true)
    (xs_BadChildren_BadMost : PySem.W.subIn K (.ref e_BadChildren) (.ref e_BadMost) = some false)
    (xs_BadParts_BadMost : PySem.W.subIn K (.ref e_BadParts) (.ref e_BadMost) = some false)
    (xs_BadSteps_BadMost : PySem.W.subIn K (.ref e_BadSteps) (.ref e_BadMost) = some false)
    (xs_BadSweets_BadMost : PySem.W.subIn K (.ref e_BadSweets) (.ref e_BadMost) = some false)
    (xs_BadRounds_BadMost : PySem.W.subIn K (.ref e_BadRounds) (.ref e_BadMost) = some false)
    (xs_BadMost_BadMost : PySem.W.subIn K (.ref e_BadMost) (.ref e_BadMost) = some true)
    (xs_BadRows_BadMost : PySem.W.subIn K (.ref e_BadRows) (.ref e_BadMost) = some false)
    (xs_BadSeen_BadMost : PySem.W.subIn K (.ref e_BadSeen) (.ref e_BadMost) = some false)
    (xs_TooMany_BadMost : PySem.W.subIn K (.ref e_TooMany) (.ref e_BadMost) = some false)
    (xs_BadChild_BadMost : PySem.W.subIn K (.ref e_BadChild) (.ref e_BadMost) = some false)
    (xs_BadGift_BadMost : PySem.W.subIn K (.ref e_BadGift) (.ref e_BadMost) = some false)
    (xs_BadText_BadMost : PySem.W.subIn K (.ref e_BadText) (.ref e_BadMost) = some false)
    (xi_BadRows : PySem.W.isClsIn K e_BadRows = true)
    (xs_BadChildren_BadRows : PySem.W.subIn K (.ref e_BadChildren) (.ref e_BadRows) = some false)
    (xs_BadParts_BadRows : PySem.W.subIn K (.ref e_BadParts) (.ref e_BadRows) = some false)
    (xs_BadSteps_BadRows : PySem.W.subIn K (.ref e_BadSteps) (.ref e_BadRows) = some false)
    (xs_BadSweets_BadRows : PySem.W.subIn K (.ref e_BadSweets) (.ref e_BadRows) = some false)
    (xs_BadRounds_BadRows : PySem.W.subIn K (.ref e_BadRounds) (.ref e_BadRows) = some false)
    (xs_BadMost_BadRows : PySem.W.subIn K (.ref e_BadMost) (.ref e_BadRows) = some false)
    (xs_BadRows_BadRows : PySem.W.subIn K (.ref e_BadRows) (.ref e_BadRows) = some true)
    (xs_BadSeen_BadRows : PySem.W.subIn K (.ref e_BadSeen) (.ref e_BadRows) = some false)
    (xs_TooMany_BadRows : PySem.W.subIn K (.ref e_TooMany) (.ref e_BadRows) = some false)
    (xs_BadChild_BadRows : PySem.W.subIn K (.ref e_BadChild) (.ref e_BadRows) = some false)
    (xs_BadGift_BadRows : PySem.W.subIn K (.ref e_BadGift) (.ref e_BadRows) = some false)
    (xs_BadText_BadRows : PySem.W.subIn K (.ref e_BadText) (.ref e_BadRows) = some false)
    (xi_BadSeen : PySem.W.isClsIn K e_BadSeen = true)
    (xs_BadChildren_BadSeen : PySem.W.subIn K (.ref e_BadChildren) (.ref e_BadSeen) = some false)
    (xs_BadParts_BadSeen : PySem.W.subIn K (.ref e_BadParts) (.ref e_BadSeen) = some false)
    (xs_BadSteps_BadSeen : PySem.W.subIn K (.ref e_BadSteps) (.ref e_BadSeen) = some false)
    (xs_BadSweets_BadSeen : PySem.W.subIn K (.ref e_BadSweets) (.ref e_BadSeen) = some false)
    (xs_BadRounds_BadSeen : PySem.W.subIn K (.ref e_BadRounds) (.ref e_BadSeen) = some false)
    (xs_BadMost_BadSeen : PySem.W.subIn K (.ref e_BadMost) (.ref e_BadSeen) = some false)
    (xs_BadRows_BadSeen : PySem.W.subIn K (.ref e_BadRows) (.ref e_BadSeen) = some false)
    (xs_BadSeen_BadSeen : PySem.W.subIn K (.ref e_BadSeen) (.ref e_BadSeen) = some true)
    (xs_TooMany_BadSeen : PySem.W.subIn K (.ref e_TooMany) (.ref e_BadSeen) = some false)
    (xs_BadChild_BadSeen : PySem.W.subIn K (.ref e_BadChild) (.ref e_BadSeen) = some false)
    (xs_BadGift_BadSeen : PySem.W.subIn K (.ref e_BadGift) (.ref e_BadSeen) = some false)
    (xs_BadText_BadSeen : PySem.W.subIn K (.ref e_BadText) (.ref e_BadSeen) = some false)
    (xi_TooMany : PySem.W.isClsIn K e_TooMany = true)
    (xs_BadChildren_TooMany : PySem.W.subIn K (.ref e_BadChildren) (.ref e_TooMany) = some false)
    (xs_BadParts_TooMany : PySem.W.subIn K (.ref e_BadParts) (.ref e_TooMany) = some false)
    (xs_BadSteps_TooMany : PySem.W.subIn K (.ref e_BadSteps) (.ref e_TooMany) = some false)
    (xs_BadSweets_TooMany : PySem.W.subIn K (.ref e_BadSweets) (.ref e_TooMany) = some false)
    (xs_BadRounds_TooMany : PySem.W.subIn K (.ref e_BadRounds) (.ref e_TooMany) = some false)
    (xs_BadMost_TooMany : PySem.W.subIn K (.ref e_BadMost) (.ref e_TooMany) = some false)
    (xs_BadRows_TooMany : PySem.W.subIn K (.ref e_BadRows) (.ref e_TooMany) = some false)
    (xs_BadSeen_TooMany : PySem.W.subIn K (.ref e_BadSeen) (.ref e_TooMany) = some false)
    (xs_TooMany_TooMany : PySem.W.subIn K (.ref e_TooMany) (.ref e_TooMany) = some true)
    (xs_BadChild_TooMany : PySem.W.subIn K (.ref e_BadChild) (.ref e_TooMany) = some false)
    (xs_BadGift_TooMany : PySem.W.subIn K (.ref e_BadGift) (.ref e_TooMany) = some false)
    (xs_BadText_TooMany : PySem.W.subIn K (.ref e_BadText) (.ref e_TooMany) = some false)
    (xi_BadChild : PySem.W.isClsIn K e_BadChild = true)
    (xs_BadChildren_BadChild : PySem.W.subIn K (.ref e_BadChildren) (.ref e_BadChild) = some false)
    (xs_BadParts_BadChild : PySem.W.subIn K (.ref e_BadParts) (.ref e_BadChild) = some false)
    (xs_BadSteps_BadChild : PySem.W.subIn K (.ref e_BadSteps) (.ref e_BadChild) = some false)
    (xs_BadSweets_BadChild : PySem.W.subIn K (.ref e_BadSweets) (.ref e_BadChild) = some false)
    (xs_BadRounds_BadChild : PySem.W.subIn K (.ref e_BadRounds) (.ref e_BadChild) = some false)
    (xs_BadMost_BadChild : PySem.W.subIn K (.ref e_BadMost) (.ref e_BadChild) = some false)
    (xs_BadRows_BadChild : PySem.W.subIn K (.ref e_BadRows) (.ref e_BadChild) = some false)
    (xs_BadSeen_BadChild : PySem.W.subIn K (.ref e_BadSeen) (.ref e_BadChild) = some false)
    (xs_TooMany_BadChild : PySem.W.subIn K (.ref e_TooMany) (.ref e_BadChild) = some false)
    (xs_BadChild_BadChild : PySem.W.subIn K (.ref e_BadChild) (.ref e_BadChild) = some true)
    (xs_BadGift_BadChild : PySem.W.subIn K (.ref e_BadGift) (.ref e_BadChild) = some false)
    (xs_BadText_BadChild : PySem.W.subIn K (.ref e_BadText) (.ref e_BadChild) = some false)
    (xi_BadGift : PySem.W.isClsIn K e_BadGift = true)
    (xs_BadChildren_BadGift : PySem.W.subIn K (.ref e_BadChildren) (.ref e_BadGift) = some false)
    (xs_BadParts_BadGift : PySem.W.subIn K (.ref e_BadParts) (.ref e_BadGift) = some false)
    (xs_BadSteps_BadGift : PySem.W.subIn K (.ref e_BadSteps) (.ref e_BadGift) = some false)
    (xs_BadSweets_BadGift : PySem.W.subIn K (.ref e_BadSweets) (.ref e_BadGift) = some false)
    (xs_BadRounds_BadGift : PySem.W.subIn K (.ref e_BadRounds) (.ref e_BadGift) = some false)
    (xs_BadMost_BadGift : PySem.W.subIn K (.ref e_BadMost) (.ref e_BadGift) = some false)
    (xs_BadRows_BadGift : PySem.W.subIn K (.ref e_BadRows) (.ref e_BadGift) = some false)
    (xs_BadSeen_BadGift : PySem.W.subIn K (.ref e_BadSeen) (.ref e_BadGift) = some false)
    (xs_TooMany_BadGift : PySem.W.subIn K (.ref e_TooMany) (.ref e_BadGift) = some false)
    (xs_BadChild_BadGift : PySem.W.subIn K (.ref e_BadChild) (.ref e_BadGift) = some false)
    (xs_BadGift_BadGift : PySem.W.subIn K (.ref e_BadGift) (.ref e_BadGift) = some true)
    (xs_BadText_BadGift : PySem.W.subIn K (.ref e_BadText) (.ref e_BadGift) = some false)
    (xi_BadText : PySem.W.isClsIn K e_BadText = true)
    (xs_BadChildren_BadText : PySem.W.subIn K (.ref e_BadChildren) (.ref e_BadText) = some false)
    (xs_BadParts_BadText : PySem.W.subIn K (.ref e_BadParts) (.ref e_BadText) = some false)
    (xs_BadSteps_BadText : PySem.W.subIn K (.ref e_BadSteps) (.ref e_BadText) = some false)
    (xs_BadSweets_BadText : PySem.W.subIn K (.ref e_BadSweets) (.ref e_BadText) = some false)
    (xs_BadRounds_BadText : PySem.W.subIn K (.ref e_BadRounds) (.ref e_BadText) = some false)
    (xs_BadMost_BadText : PySem.W.subIn K (.ref e_BadMost) (.ref e_BadText) = some false)
    (xs_BadRows_BadText : PySem.W.subIn K (.ref e_BadRows) (.ref e_BadText) = some false)
    (xs_BadSeen_BadText : PySem.W.subIn K (.ref e_BadSeen) (.ref e_BadText) = some false)
    (xs_TooMany_BadText : PySem.W.subIn K (.ref e_TooMany) (.ref e_BadText) = some false)
    (xs_BadChild_BadText : PySem.W.subIn K (.ref e_BadChild) (.ref e_BadText) = some false)
    (xs_BadGift_BadText : PySem.W.subIn K (.ref e_BadGift) (.ref e_BadText) = some false)
    (xs_BadText_BadText : PySem.W.subIn K (.ref e_BadText) (.ref e_BadText) = some true)
    (xi_SweetError : PySem.W.isClsIn K e_SweetError = true)
    (xs_BadChildren_SweetError : PySem.W.subIn K (.ref e_BadChildren) (.ref e_SweetError) = some true)
    (xs_BadParts_SweetError : PySem.W.subIn K (.ref e_BadParts) (.ref e_SweetError) = some true)
    (xs_BadSteps_SweetError : PySem.W.subIn K (.ref e_BadSteps) (.ref e_SweetError) = some true)
    (xs_BadSweets_SweetError : PySem.W.subIn K (.ref e_BadSweets) (.ref e_SweetError) = some true)
    (xs_BadRounds_SweetError : PySem.W.subIn K (.ref e_BadRounds) (.ref e_SweetError) = some true)
    (xs_BadMost_SweetError : PySem.W.subIn K (.ref e_BadMost) (.ref e_SweetError) = some true)
    (xs_BadRows_SweetError : PySem.W.subIn K (.ref e_BadRows) (.ref e_SweetError) = some true)
    (xs_BadSeen_SweetError : PySem.W.subIn K (.ref e_BadSeen) (.ref e_SweetError) = some true)
    (xs_TooMany_SweetError : PySem.W.subIn K (.ref e_TooMany) (.ref e_SweetError) = some true)
    (xs_BadChild_SweetError : PySem.W.subIn K (.ref e_BadChild) (.ref e_SweetError) = some true)
    (xs_BadGift_SweetError : PySem.W.subIn K (.ref e_BadGift) (.ref e_SweetError) = some true)
    (xs_BadText_SweetError : PySem.W.subIn K (.ref e_BadText) (.ref e_SweetError) = some true)
    (xn : PySem.W.specialIn K (.builtin "object.__class__") "__get__" = some (some (.builtin "getset_descriptor.__get__")))
    (xt : PySem.W.takesIn K (.builtin "object.__class__") = some true)
    (ega_BadChildren : PySem.W.findIn K (.ref e_BadChildren) "__getattribute__" = some (some (.builtin "BaseException.__getattribute__")))
    (egg_BadChildren : PySem.W.findIn K (.ref e_BadChildren) "__getattr__" = some none)
    (ehd_BadChildren : PySem.W.hasDictIn K e_BadChildren = true)
    (eca_BadChildren : PySem.W.findIn K (.ref e_BadChildren) "__class__" = some (some (.builtin "object.__class__")))
    (emo_BadChildren : PySem.W.mroIn K e_BadChildren (.type "object") = some true)
    (esv_BadChildren : PySem.W.subIn K (.ref e_BadChildren) (.type "ValueError") = some true)
    (ega_BadParts : PySem.W.findIn K (.ref e_BadParts) "__getattribute__" = some (some (.builtin "BaseException.__getattribute__")))
    (egg_BadParts : PySem.W.findIn K (.ref e_BadParts) "__getattr__" = some none)
    (ehd_BadParts : PySem.W.hasDictIn K e_BadParts = true)
    (eca_BadParts : PySem.W.findIn K (.ref e_BadParts) "__class__" = some (some (.builtin "object.__class__")))
    (emo_BadParts : PySem.W.mroIn K e_BadParts (.type "object") = some true)
    (esv_BadParts : PySem.W.subIn K (.ref e_BadParts) (.type "ValueError") = some true)
    (eca_BadSteps : PySem.W.findIn K (.ref e_BadSteps) "__class__" = some (some (.builtin "object.__class__")))
    (emo_BadSteps : PySem.W.mroIn K e_BadSteps (.type "object") = some true)
    (esv_BadSteps : PySem.W.subIn K (.ref e_BadSteps) (.type "ValueError") = some true)
    (eca_BadSweets : PySem.W.findIn K (.ref e_BadSweets) "__class__" = some (some (.builtin "object.__class__")))
    (emo_BadSweets : PySem.W.mroIn K e_BadSweets (.type "object") = some true)
    (esv_BadSweets : PySem.W.subIn K (.ref e_BadSweets) (.type "ValueError") = some true)
    (ega_BadRounds : PySem.W.findIn K (.ref e_BadRounds) "__getattribute__" = some (some (.builtin "BaseException.__getattribute__")))
    (egg_BadRounds : PySem.W.findIn K (.ref e_BadRounds) "__getattr__" = some none)
    (ehd_BadRounds : PySem.W.hasDictIn K e_BadRounds = true)
    (eca_BadRounds : PySem.W.findIn K (.ref e_BadRounds) "__class__" = some (some (.builtin "object.__class__")))
    (emo_BadRounds : PySem.W.mroIn K e_BadRounds (.type "object") = some true)
    (esv_BadRounds : PySem.W.subIn K (.ref e_BadRounds) (.type "ValueError") = some true)
    (ega_BadMost : PySem.W.findIn K (.ref e_BadMost) "__getattribute__" = some (some (.builtin "BaseException.__getattribute__")))
    (egg_BadMost : PySem.W.findIn K (.ref e_BadMost) "__getattr__" = some none)
    (ehd_BadMost : PySem.W.hasDictIn K e_BadMost = true)
    (eca_BadMost : PySem.W.findIn K (.ref e_BadMost) "__class__" = some (some (.builtin "object.__class__")))
    (emo_BadMost : PySem.W.mroIn K e_BadMost (.type "object") = some true)
    (esv_BadMost : PySem.W.subIn K (.ref e_BadMost) (.type "ValueError") = some true)
    (eca_BadRows : PySem.W.findIn K (.ref e_BadRows) "__class__" = some (some (.builtin "object.__class__")))
    (emo_BadRows : PySem.W.mroIn K e_BadRows (.type "object") = some true)
    (esv_BadRows : PySem.W.subIn K (.ref e_BadRows) (.type "ValueError") = some true)
    (eca_BadSeen : PySem.W.findIn K (.ref e_BadSeen) "__class__" = some (some (.builtin "object.__class__")))
    (emo_BadSeen : PySem.W.mroIn K e_BadSeen (.type "object") = some true)
    (esv_BadSeen : PySem.W.subIn K (.ref e_BadSeen) (.type "ValueError") = some true)
    (ega_TooMany : PySem.W.findIn K (.ref e_TooMany) "__getattribute__" = some (some (.builtin "BaseException.__getattribute__")))
    (egg_TooMany : PySem.W.findIn K (.ref e_TooMany) "__getattr__" = some none)
    (ehd_TooMany : PySem.W.hasDictIn K e_TooMany = true)
    (eca_TooMany : PySem.W.findIn K (.ref e_TooMany) "__class__" = some (some (.builtin "object.__class__")))
    (emo_TooMany : PySem.W.mroIn K e_TooMany (.type "object") = some true)
    (esv_TooMany : PySem.W.subIn K (.ref e_TooMany) (.type "ValueError") = some true)
    (ega_BadChild : PySem.W.findIn K (.ref e_BadChild) "__getattribute__" = some (some (.builtin "BaseException.__getattribute__")))
    (egg_BadChild : PySem.W.findIn K (.ref e_BadChild) "__getattr__" = some none)
    (ehd_BadChild : PySem.W.hasDictIn K e_BadChild = true)
    (eca_BadChild : PySem.W.findIn K (.ref e_BadChild) "__class__" = some (some (.builtin "object.__class__")))
    (emo_BadChild : PySem.W.mroIn K e_BadChild (.type "object") = some true)
    (esv_BadChild : PySem.W.subIn K (.ref e_BadChild) (.type "ValueError") = some true)
    (ega_BadGift : PySem.W.findIn K (.ref e_BadGift) "__getattribute__" = some (some (.builtin "BaseException.__getattribute__")))
    (egg_BadGift : PySem.W.findIn K (.ref e_BadGift) "__getattr__" = some none)
    (ehd_BadGift : PySem.W.hasDictIn K e_BadGift = true)
    (eca_BadGift : PySem.W.findIn K (.ref e_BadGift) "__class__" = some (some (.builtin "object.__class__")))
    (emo_BadGift : PySem.W.mroIn K e_BadGift (.type "object") = some true)
    (esv_BadGift : PySem.W.subIn K (.ref e_BadGift) (.type "ValueError") = some true)
    (eca_BadText : PySem.W.findIn K (.ref e_BadText) "__class__" = some (some (.builtin "object.__class__")))
    (emo_BadText : PySem.W.mroIn K e_BadText (.type "object") = some true)
    (esv_BadText : PySem.W.subIn K (.ref e_BadText) (.type "ValueError") = some true)
    : ∃ fd : FuncData, (∀ (s : Shared) (v : Value), BindsTo s fd ⟨[v], []⟩ [("_law_script", v)]) ∧ ∀ base : Heap, K.In base → base.Ns mainGlobals mg → FnOk P w K mg base (L2.CX P w) 6 fa fd ["_law_script"] (spTop K) := by
  have e := hfa.symm.trans (PySem.W.mg_of X GG a_law)
  cases e
  let cl : Str → Addr := clOf [("BadChild", e_BadChild), ("BadChildren", e_BadChildren), ("BadGift", e_BadGift), ("BadMost", e_BadMost), ("BadParts", e_BadParts), ("BadRounds", e_BadRounds), ("BadRows", e_BadRows), ("BadSeen", e_BadSeen), ("BadSteps", e_BadSteps), ("BadSweets", e_BadSweets), ("BadText", e_BadText), ("SweetError", e_SweetError), ("TooMany", e_TooMany)]
  have ce_BadChild : cl "BadChild" = e_BadChild := by
    exact if_pos rfl
  have ce_BadChildren : cl "BadChildren" = e_BadChildren := by
    refine (if_neg (by decide +kernel)).trans ?_
    exact if_pos rfl
  have ce_BadGift : cl "BadGift" = e_BadGift := by
    refine (if_neg (by decide +kernel)).trans ?_
    refine (if_neg (by decide +kernel)).trans ?_
    exact if_pos rfl
  have ce_BadMost : cl "BadMost" = e_BadMost := by
    refine (if_neg (by decide +kernel)).trans ?_
    refine (if_neg (by decide +kernel)).trans ?_
    refine (if_neg (by decide +kernel)).trans ?_
    exact if_pos rfl
  have ce_BadParts : cl "BadParts" = e_BadParts := by
    refine (if_neg (by decide +kernel)).trans ?_
    refine (if_neg (by decide +kernel)).trans ?_
    refine (if_neg (by decide +kernel)).trans ?_
    refine (if_neg (by decide +kernel)).trans ?_
    exact if_pos rfl
  have ce_BadRounds : cl "BadRounds" = e_BadRounds := by
    refine (if_neg (by decide +kernel)).trans ?_
    refine (if_neg (by decide +kernel)).trans ?_
    refine (if_neg (by decide +kernel)).trans ?_
    refine (if_neg (by decide +kernel)).trans ?_
    refine (if_neg (by decide +kernel)).trans ?_
    exact if_pos rfl
  have ce_BadRows : cl "BadRows" = e_BadRows := by
    refine (if_neg (by decide +kernel)).trans ?_
    refine (if_neg (by decide +kernel)).trans ?_
    refine (if_neg (by decide +kernel)).trans ?_
    refine (if_neg (by decide +kernel)).trans ?_
    refine (if_neg (by decide +kernel)).trans ?_
    refine (if_neg (by decide +kernel)).trans ?_
    exact if_pos rfl
  have ce_BadSeen : cl "BadSeen" = e_BadSeen := by
    refine (if_neg (by decide +kernel)).trans ?_
    refine (if_neg (by decide +kernel)).trans ?_
    refine (if_neg (by decide +kernel)).trans ?_
    refine (if_neg (by decide +kernel)).trans ?_
    refine (if_neg (by decide +kernel)).trans ?_
    refine (if_neg (by decide +kernel)).trans ?_
    refine (if_neg (by decide +kernel)).trans ?_
    exact if_pos rfl
  have ce_BadSteps : cl "BadSteps" = e_BadSteps := by
    refine (if_neg (by decide +kernel)).trans ?_
    refine (if_neg (by decide +kernel)).trans ?_
    refine (if_neg (by decide +kernel)).trans ?_
    refine (if_neg (by decide +kernel)).trans ?_
    refine (if_neg (by decide +kernel)).trans ?_
    refine (if_neg (by decide +kernel)).trans ?_
    refine (if_neg (by decide +kernel)).trans ?_
    refine (if_neg (by decide +kernel)).trans ?_
    exact if_pos rfl
  have ce_BadSweets : cl "BadSweets" = e_BadSweets := by
    refine (if_neg (by decide +kernel)).trans ?_
    refine (if_neg (by decide +kernel)).trans ?_
    refine (if_neg (by decide +kernel)).trans ?_
    refine (if_neg (by decide +kernel)).trans ?_
    refine (if_neg (by decide +kernel)).trans ?_
    refine (if_neg (by decide +kernel)).trans ?_
    refine (if_neg (by decide +kernel)).trans ?_
    refine (if_neg (by decide +kernel)).trans ?_
    refine (if_neg (by decide +kernel)).trans ?_
    exact if_pos rfl
  have ce_BadText : cl "BadText" = e_BadText := by
    refine (if_neg (by decide +kernel)).trans ?_
    refine (if_neg (by decide +kernel)).trans ?_
    refine (if_neg (by decide +kernel)).trans ?_
    refine (if_neg (by decide +kernel)).trans ?_
    refine (if_neg (by decide +kernel)).trans ?_
    refine (if_neg (by decide +kernel)).trans ?_
    refine (if_neg (by decide +kernel)).trans ?_
    refine (if_neg (by decide +kernel)).trans ?_
    refine (if_neg (by decide +kernel)).trans ?_
    refine (if_neg (by decide +kernel)).trans ?_
    exact if_pos rfl
  have ce_SweetError : cl "SweetError" = e_SweetError := by
    refine (if_neg (by decide +kernel)).trans ?_
    refine (if_neg (by decide +kernel)).trans ?_
    refine (if_neg (by decide +kernel)).trans ?_
    refine (if_neg (by decide +kernel)).trans ?_
    refine (if_neg (by decide +kernel)).trans ?_
    refine (if_neg (by decide +kernel)).trans ?_
    refine (if_neg (by decide +kernel)).trans ?_
    refine (if_neg (by decide +kernel)).trans ?_
    refine (if_neg (by decide +kernel)).trans ?_
    refine (if_neg (by decide +kernel)).trans ?_
    refine (if_neg (by decide +kernel)).trans ?_
    exact if_pos rfl
  have ce_TooMany : cl "TooMany" = e_TooMany := by
    refine (if_neg (by decide +kernel)).trans ?_
    refine (if_neg (by decide +kernel)).trans ?_
    refine (if_neg (by decide +kernel)).trans ?_
    refine (if_neg (by decide +kernel)).trans ?_
    refine (if_neg (by decide +kernel)).trans ?_
    refine (if_neg (by decide +kernel)).trans ?_
    refine (if_neg (by decide +kernel)).trans ?_
    refine (if_neg (by decide +kernel)).trans ?_
    refine (if_neg (by decide +kernel)).trans ?_
    refine (if_neg (by decide +kernel)).trans ?_
    refine (if_neg (by decide +kernel)).trans ?_
    refine (if_neg (by decide +kernel)).trans ?_
    exact if_pos rfl
  have T : Tx K mg cl := {
    dummy := trivial,
    b_ValueError := PySem.W.mg_none_of X GG z_ValueError,
    b_abs := PySem.W.mg_none_of X GG z_abs,
    b_int := PySem.W.mg_none_of X GG z_int,
    b_isinstance := PySem.W.mg_none_of X GG z_isinstance,
    b_len := PySem.W.mg_none_of X GG z_len,
    b_range := PySem.W.mg_none_of X GG z_range,
    e_BadChild := (by rw [ce_BadChild]; exact ⟨PySem.W.mg_of X GG ea_BadChild, ek_BadChild, eq_BadChild, es_BadChild, et_BadChild⟩),
    e_BadChildren := (by rw [ce_BadChildren]; exact ⟨PySem.W.mg_of X GG ea_BadChildren, ek_BadChildren, eq_BadChildren, es_BadChildren, et_BadChildren⟩),
    e_BadGift := (by rw [ce_BadGift]; exact ⟨PySem.W.mg_of X GG ea_BadGift, ek_BadGift, eq_BadGift, es_BadGift, et_BadGift⟩),
    e_BadMost := (by rw [ce_BadMost]; exact ⟨PySem.W.mg_of X GG ea_BadMost, ek_BadMost, eq_BadMost, es_BadMost, et_BadMost⟩),
    e_BadParts := (by rw [ce_BadParts]; exact ⟨PySem.W.mg_of X GG ea_BadParts, ek_BadParts, eq_BadParts, es_BadParts, et_BadParts⟩),
    e_BadRounds := (by rw [ce_BadRounds]; exact ⟨PySem.W.mg_of X GG ea_BadRounds, ek_BadRounds, eq_BadRounds, es_BadRounds, et_BadRounds⟩),
    f_BadRows := f_i_BadRows,
    e_BadRows := (by rw [ce_BadRows]; exact { gC := PySem.W.mg_of X GG ea_BadRows, cls := ⟨_, _, _, _, _, _, _, _, _, _, _, _, _, _, _, ex_BadRows, by rfl⟩, sa := esa_BadRows, ga := ega_BadRows, gg := egg_BadRows, noN := enb_BadRows, iC := a_i_BadRows, tC := ty_BadRows, kC := ek_BadRows, exC := es_BadRows, tyC := et_BadRows, hdC := ehd_BadRows, fn := ⟨_, _, _, _, _, _, _, _, _, _, _, _, _, _, l_i_BadRows, c_i_BadRows⟩ }),
    f_BadSeen := f_i_BadSeen,
    e_BadSeen := (by rw [ce_BadSeen]; exact { gC := PySem.W.mg_of X GG ea_BadSeen, cls := ⟨_, _, _, _, _, _, _, _, _, _, _, _, _, _, _, ex_BadSeen, by rfl⟩, sa := esa_BadSeen, ga := ega_BadSeen, gg := egg_BadSeen, noN := enb_BadSeen, iC := a_i_BadSeen, tC := ty_BadSeen, kC := ek_BadSeen, exC := es_BadSeen, tyC := et_BadSeen, hdC := ehd_BadSeen, fn := ⟨_, _, _, _, _, _, _, _, _, _, _, _, _, _, l_i_BadSeen, c_i_BadSeen⟩ }),
    f_BadSteps := f_i_BadSteps,
    e_BadSteps := (by rw [ce_BadSteps]; exact { gC := PySem.W.mg_of X GG ea_BadSteps, cls := ⟨_, _, _, _, _, _, _, _, _, _, _, _, _, _, _, ex_BadSteps, by rfl⟩, sa := esa_BadSteps, ga := ega_BadSteps, gg := egg_BadSteps, noN := enb_BadSteps, iC := a_i_BadSteps, tC := ty_BadSteps, kC := ek_BadSteps, exC := es_BadSteps, tyC := et_BadSteps, hdC := ehd_BadSteps, fn := ⟨_, _, _, _, _, _, _, _, _, _, _, _, _, _, l_i_BadSteps, c_i_BadSteps⟩ }),
    f_BadSweets := f_i_BadSweets,
    e_BadSweets := (by rw [ce_BadSweets]; exact { gC := PySem.W.mg_of X GG ea_BadSweets, cls := ⟨_, _, _, _, _, _, _, _, _, _, _, _, _, _, _, ex_BadSweets, by rfl⟩, sa := esa_BadSweets, ga := ega_BadSweets, gg := egg_BadSweets, noN := enb_BadSweets, iC := a_i_BadSweets, tC := ty_BadSweets, kC := ek_BadSweets, exC := es_BadSweets, tyC := et_BadSweets, hdC := ehd_BadSweets, fn := ⟨_, _, _, _, _, _, _, _, _, _, _, _, _, _, l_i_BadSweets, c_i_BadSweets⟩ }),
    f_BadText := f_i_BadText,
    e_BadText := (by rw [ce_BadText]; exact { gC := PySem.W.mg_of X GG ea_BadText, cls := ⟨_, _, _, _, _, _, _, _, _, _, _, _, _, _, _, ex_BadText, by rfl⟩, sa := esa_BadText, ga := ega_BadText, gg := egg_BadText, noN := enb_BadText, iC := a_i_BadText, tC := ty_BadText, kC := ek_BadText, exC := es_BadText, tyC := et_BadText, hdC := ehd_BadText, fn := ⟨_, _, _, _, _, _, _, _, _, _, _, _, _, _, l_i_BadText, c_i_BadText⟩ }),
    e_TooMany := (by rw [ce_TooMany]; exact ⟨PySem.W.mg_of X GG ea_TooMany, ek_TooMany, eq_TooMany, es_TooMany, et_TooMany⟩),
    h_BadChildren := (by rw [ce_BadChildren]; exact PySem.W.mg_of X GG ea_BadChildren),
    h_BadParts := (by rw [ce_BadParts]; exact PySem.W.mg_of X GG ea_BadParts),
    h_BadSteps := (by rw [ce_BadSteps]; exact PySem.W.mg_of X GG ea_BadSteps),
    h_BadSweets := (by rw [ce_BadSweets]; exact PySem.W.mg_of X GG ea_BadSweets),
    h_BadRounds := (by rw [ce_BadRounds]; exact PySem.W.mg_of X GG ea_BadRounds),
    h_BadMost := (by rw [ce_BadMost]; exact PySem.W.mg_of X GG ea_BadMost),
    h_BadRows := (by rw [ce_BadRows]; exact PySem.W.mg_of X GG ea_BadRows),
    h_BadSeen := (by rw [ce_BadSeen]; exact PySem.W.mg_of X GG ea_BadSeen),
    h_TooMany := (by rw [ce_TooMany]; exact PySem.W.mg_of X GG ea_TooMany),
    h_BadChild := (by rw [ce_BadChild]; exact PySem.W.mg_of X GG ea_BadChild),
    h_BadGift := (by rw [ce_BadGift]; exact PySem.W.mg_of X GG ea_BadGift),
    h_BadText := (by rw [ce_BadText]; exact PySem.W.mg_of X GG ea_BadText),
    h_SweetError := (by rw [ce_SweetError]; exact PySem.W.mg_of X GG ea_SweetError),
    xc := (List.forall_mem_cons.mpr ⟨(by rw [ce_BadChildren]; exact ⟨ega_BadChildren, egg_BadChildren, es_BadChildren, ehd_BadChildren, eca_BadChildren, xn, xt, emo_BadChildren⟩), (List.forall_mem_cons.mpr ⟨(by rw [ce_BadParts]; exact ⟨ega_BadParts, egg_BadParts, es_BadParts, ehd_BadParts, eca_BadParts, xn, xt, emo_BadParts⟩), (List.forall_mem_cons.mpr ⟨(by rw [ce_BadSteps]; exact ⟨ega_BadSteps, egg_BadSteps, es_BadSteps, ehd_BadSteps, eca_BadSteps, xn, xt, emo_BadSteps⟩), (List.forall_mem_cons.mpr ⟨(by rw [ce_BadSweets]; exact ⟨ega_BadSweets, egg_BadSweets, es_BadSweets, ehd_BadSweets, eca_BadSweets, xn, xt, emo_BadSweets⟩), (List.forall_mem_cons.mpr ⟨(by rw [ce_BadRounds]; exact ⟨ega_BadRounds, egg_BadRounds, es_BadRounds, ehd_BadRounds, eca_BadRounds, xn, xt, emo_BadRounds⟩), (List.forall_mem_cons.mpr ⟨(by rw [ce_BadMost]; exact ⟨ega_BadMost, egg_BadMost, es_BadMost, ehd_BadMost, eca_BadMost, xn, xt, emo_BadMost⟩), (List.forall_mem_cons.mpr ⟨(by rw [ce_BadRows]; exact ⟨ega_BadRows, egg_BadRows, es_BadRows, ehd_BadRows, eca_BadRows, xn, xt, emo_BadRows⟩), (List.forall_mem_cons.mpr ⟨(by rw [ce_BadSeen]; exact ⟨ega_BadSeen, egg_BadSeen, es_BadSeen, ehd_BadSeen, eca_BadSeen, xn, xt, emo_BadSeen⟩), (List.forall_mem_cons.mpr ⟨(by rw [ce_TooMany]; exact ⟨ega_TooMany, egg_TooMany, es_TooMany, ehd_TooMany, eca_TooMany, xn, xt, emo_TooMany⟩), (List.forall_mem_cons.mpr ⟨(by rw [ce_BadChild]; exact ⟨ega_BadChild, egg_BadChild, es_BadChild, ehd_BadChild, eca_BadChild, xn, xt, emo_BadChild⟩), (List.forall_mem_cons.mpr ⟨(by rw [ce_BadGift]; exact ⟨ega_BadGift, egg_BadGift, es_BadGift, ehd_BadGift, eca_BadGift, xn, xt, emo_BadGift⟩), (List.forall_mem_cons.mpr ⟨(by rw [ce_BadText]; exact ⟨ega_BadText, egg_BadText, es_BadText, ehd_BadText, eca_BadText, xn, xt, emo_BadText⟩), (fun _ h => nomatch h)⟩)⟩)⟩)⟩)⟩)⟩)⟩)⟩)⟩)⟩)⟩)⟩),
    xk := (List.forall_mem_cons.mpr ⟨(List.forall_mem_cons.mpr ⟨(by rw [ce_BadChildren, show exSub "BadChildren" "BadChildren" = true from by decide +kernel]; exact kit_sub xi_BadChildren et_BadChildren xs_BadChildren_BadChildren (fun h => by rfl)), (List.forall_mem_cons.mpr ⟨(by rw [ce_BadChildren, ce_BadParts, show exSub "BadChildren" "BadParts" = false from by decide +kernel]; exact kit_sub xi_BadParts et_BadParts xs_BadChildren_BadParts (fun h => by (have q := xs_BadChildren_BadParts; rw [h] at q; rw [xs_BadParts_BadParts] at q; cases q))), (List.forall_mem_cons.mpr ⟨(by rw [ce_BadChildren, ce_BadSteps, show exSub "BadChildren" "BadSteps" = false from by decide +kernel]; exact kit_sub xi_BadSteps et_BadSteps xs_BadChildren_BadSteps (fun h => by (have q := xs_BadChildren_BadSteps; rw [h] at q; rw [xs_BadSteps_BadSteps] at q; cases q))), (List.forall_mem_cons.mpr ⟨(by rw [ce_BadChildren, ce_BadSweets, show exSub "BadChildren" "BadSweets" = false from by decide +kernel]; exact kit_sub xi_BadSweets et_BadSweets xs_BadChildren_BadSweets (fun h => by (have q := xs_BadChildren_BadSweets; rw [h] at q; rw [xs_BadSweets_BadSweets] at q; cases q))), (List.forall_mem_cons.mpr ⟨(by rw [ce_BadChildren, ce_BadRounds, show exSub "BadChildren" "BadRounds" = false from by decide +kernel]; exact kit_sub xi_BadRounds et_BadRounds xs_BadChildren_BadRounds (fun h => by (have q := xs_BadChildren_BadRounds; rw [h] at q; rw [xs_BadRounds_BadRounds] at q; cases q))), (List.forall_mem_cons.mpr ⟨(by rw [ce_BadChildren, ce_BadMost, show exSub "BadChildren" "BadMost" = false from by decide +kernel]; exact kit_sub xi_BadMost et_BadMost xs_BadChildren_BadMost (fun h => by (have q := xs_BadChildren_BadMost; rw [h] at q; rw [xs_BadMost_BadMost] at q; cases q))), (List.forall_mem_cons.mpr ⟨(by rw [ce_BadChildren, ce_BadRows, show exSub "BadChildren" "BadRows" = false from by decide +kernel]; exact kit_sub xi_BadRows et_BadRows xs_BadChildren_BadRows (fun h => by (have q := xs_BadChildren_BadRows; rw [h] at q; rw [xs_BadRows_BadRows] at q; cases q))), (List.forall_mem_cons.mpr ⟨(by rw [ce_BadChildren, ce_BadSeen, show exSub "BadChildren" "BadSeen" = false from by decide +kernel]; exact kit_sub xi_BadSeen et_BadSeen xs_BadChildren_BadSeen (fun h => by (have q := xs_BadChildren_BadSeen; rw [h] at q; rw [xs_BadSeen_BadSeen] at q; cases q))), (List.forall_mem_cons.mpr ⟨(by rw [ce_BadChildren, ce_TooMany, show exSub "BadChildren" "TooMany" = false from by decide +kernel]; exact kit_sub xi_TooMany et_TooMany xs_BadChildren_TooMany (fun h => by (have q := xs_BadChildren_TooMany; rw [h] at q; rw [xs_TooMany_TooMany] at q; cases q))), (List.forall_mem_cons.mpr ⟨(by rw [ce_BadChildren, ce_BadChild, show exSub "BadChildren" "BadChild" = false from by decide +kernel]; exact kit_sub xi_BadChild et_BadChild xs_BadChildren_BadChild (fun h => by (have q := xs_BadChildren_BadChild; rw [h] at q; rw [xs_BadChild_BadChild] at q; cases q))), (List.forall_mem_cons.mpr ⟨(by rw [ce_BadChildren, ce_BadGift, show exSub "BadChildren" "BadGift" = false from by decide +kernel]; exact kit_sub xi_BadGift et_BadGift xs_BadChildren_BadGift (fun h => by (have q := xs_BadChildren_BadGift; rw [h] at q; rw [xs_BadGift_BadGift] at q; cases q))), (List.forall_mem_cons.mpr ⟨(by rw [ce_BadChildren, ce_BadText, show exSub "BadChildren" "BadText" = false from by decide +kernel]; exact kit_sub xi_BadText et_BadText xs_BadChildren_BadText (fun h => by (have q := xs_BadChildren_BadText; rw [h] at q; rw [xs_BadText_BadText] at q; cases q))), (List.forall_mem_cons.mpr ⟨(by rw [ce_BadChildren, ce_SweetError, show exSub "BadChildren" "SweetError" = true from by decide +kernel]; exact kit_sub xi_SweetError et_SweetError xs_BadChildren_SweetError (fun h => by rfl)), (fun _ h => nomatch h)⟩)⟩)⟩)⟩)⟩)⟩)⟩)⟩)⟩)⟩)⟩)⟩)⟩), (List.forall_mem_cons.mpr ⟨(List.forall_mem_cons.mpr ⟨(by rw [ce_BadParts, ce_BadChildren, show exSub "BadParts" "BadChildren" = false from by decide +kernel]; exact kit_sub xi_BadChildren et_BadChildren xs_BadParts_BadChildren (fun h => by (have q := xs_BadParts_BadChildren; rw [h] at q; rw [xs_BadChildren_BadChildren] at q; cases q))), (List.forall_mem_cons.mpr ⟨(by rw [ce_BadParts, show exSub "BadParts" "BadParts" = true from by decide +kernel]; exact kit_sub xi_BadParts et_BadParts xs_BadParts_BadParts (fun h => by rfl)), (List.forall_mem_cons.mpr ⟨(by rw [ce_BadParts, ce_BadSteps, show exSub "BadParts" "BadSteps" = false from by decide +kernel]; exact kit_sub xi_BadSteps et_BadSteps xs_BadParts_BadSteps (fun h => by (have q := xs_BadParts_BadSteps; rw [h] at q; rw [xs_BadSteps_BadSteps] at q; cases q))), (List.forall_mem_cons.mpr ⟨(by rw [ce_BadParts, ce_BadSweets, show exSub "BadParts" "BadSweets" = false from by decide +kernel]; exact kit_sub xi_BadSweets et_BadSweets xs_BadParts_BadSweets (fun h => by (have q := xs_BadParts_BadSweets; rw [h] at q; rw [xs_BadSweets_BadSweets] at q; cases q))), (List.forall_mem_cons.mpr ⟨(by rw [ce_BadParts, ce_BadRounds, show exSub "BadParts" "BadRounds" = false from by decide +kernel]; exact kit_sub xi_BadRounds et_BadRounds xs_BadParts_BadRounds (fun h => by (have q := xs_BadParts_BadRounds; rw [h] at q; rw [xs_BadRounds_BadRounds] at q; cases q))), (List.forall_mem_cons.mpr ⟨(by rw [ce_BadParts, ce_BadMost, show exSub "BadParts" "BadMost" = false from by decide +kernel]; exact kit_sub xi_BadMost et_BadMost xs_BadParts_BadMost (fun h => by (have q := xs_BadParts_BadMost; rw [h] at q; rw [xs_BadMost_BadMost] at q; cases q))), (List.forall_mem_cons.mpr ⟨(by rw [ce_BadParts, ce_BadRows, show exSub "BadParts" "BadRows" = false from by decide +kernel]; exact kit_sub xi_BadRows et_BadRows xs_BadParts_BadRows (fun h => by (have q := xs_BadParts_BadRows; rw [h] at q; rw [xs_BadRows_BadRows] at q; cases q))), (List.forall_mem_cons.mpr ⟨(by rw [ce_BadParts, ce_BadSeen, show exSub "BadParts" "BadSeen" = false from by decide +kernel]; exact kit_sub xi_BadSeen et_BadSeen xs_BadParts_BadSeen (fun h => by (have q := xs_BadParts_BadSeen; rw [h] at q; rw [xs_BadSeen_BadSeen] at q; cases q))), (List.forall_mem_cons.mpr ⟨(by rw [ce_BadParts, ce_TooMany, show exSub "BadParts" "TooMany" = false from by decide +kernel]; exact kit_sub xi_TooMany et_TooMany xs_BadParts_TooMany (fun h => by (have q := xs_BadParts_TooMany; rw [h] at q; rw [xs_TooMany_TooMany] at q; cases q))), (List.forall_mem_cons.mpr ⟨(by rw [ce_BadParts, ce_BadChild, show exSub "BadParts" "BadChild" = false from by decide +kernel]; exact kit_sub xi_BadChild et_BadChild xs_BadParts_BadChild (fun h => by (have q := xs_BadParts_BadChild; rw [h] at q; rw [xs_BadChild_BadChild] at q; cases q))), (List.forall_mem_cons.mpr ⟨(by rw [ce_BadParts, ce_BadGift, show exSub "BadParts" "BadGift" = false from by decide +kernel]; exact kit_sub xi_BadGift et_BadGift xs_BadParts_BadGift (fun h => by (have q := xs_BadParts_BadGift; rw [h] at q; rw [xs_BadGift_BadGift] at q; cases q))), (List.forall_mem_cons.mpr ⟨(by rw [ce_BadParts, ce_BadText, show exSub "BadParts" "BadText" = false from by decide +kernel]; exact kit_sub xi_BadText et_BadText xs_BadParts_BadText (fun h => by (have q := xs_BadParts_BadText; rw [h] at q; rw [xs_BadText_BadText] at q; cases q))), (List.forall_mem_cons.mpr ⟨(by rw [ce_BadParts, ce_SweetError, show exSub "BadParts" "SweetError" = true from by decide +kernel]; exact kit_sub xi_SweetError et_SweetError xs_BadParts_SweetError (fun h => by rfl)), (fun _ h => nomatch h)⟩)⟩)⟩)⟩)⟩)⟩)⟩)⟩)⟩)⟩)⟩)⟩)⟩), (List.forall_mem_cons.mpr ⟨(List.forall_mem_cons.mpr ⟨(by rw [ce_BadSteps, ce_BadChildren, show exSub "BadSteps" "BadChildren" = false from by decide +kernel]; exact kit_sub xi_BadChildren et_BadChildren xs_BadSteps_BadChildren (fun h => by (have q := xs_BadSteps_BadChildren; rw [h] at q; rw [xs_BadChildren_BadChildren] at q; cases q))), (List.forall_mem_cons.mpr ⟨(by rw [ce_BadSteps, ce_BadParts, show exSub "BadSteps" "BadParts" = false from by decide +kernel]; exact kit_sub xi_BadParts et_BadParts xs_BadSteps_BadParts (fun h => by (have q := xs_BadSteps_BadParts; rw [h] at q; rw [xs_BadParts_BadParts] at q; cases q))), (List.forall_mem_cons.mpr ⟨(by rw [ce_BadSteps, show exSub "BadSteps" "BadSteps" = true from by decide +kernel]; exact kit_sub xi_BadSteps et_BadSteps xs_BadSteps_BadSteps (fun h => by rfl)), (List.forall_mem_cons.mpr ⟨(by rw [ce_BadSteps, ce_BadSweets, show exSub "BadSteps" "BadSweets" = false from by decide +kernel]; exact kit_sub xi_BadSweets et_BadSweets xs_BadSteps_BadSweets (fun h => by (have q := xs_BadSteps_BadSweets; rw [h] at q; rw [xs_BadSweets_BadSweets] at q; cases q))), (List.forall_mem_cons.mpr ⟨(by rw [ce_BadSteps, ce_BadRounds, show exSub "BadSteps" "BadRounds" = false from by decide +kernel]; exact kit_sub xi_BadRounds et_BadRounds xs_BadSteps_BadRounds (fun h => by (have q := xs_BadSteps_BadRounds; rw [h] at q; rw [xs_BadRounds_BadRounds] at q; cases q))), (List.forall_mem_cons.mpr ⟨(by rw [ce_BadSteps, ce_BadMost, show exSub "BadSteps" "BadMost" = false from by decide +kernel]; exact kit_sub xi_BadMost et_BadMost xs_BadSteps_BadMost (fun h => by (have q := xs_BadSteps_BadMost; rw [h] at q; rw [xs_BadMost_BadMost] at q; cases q))), (List.forall_mem_cons.mpr ⟨(by rw [ce_BadSteps, ce_BadRows, show exSub "BadSteps" "BadRows" = false from by decide +kernel]; exact kit_sub xi_BadRows et_BadRows xs_BadSteps_BadRows (fun h => by (have q := xs_BadSteps_BadRows; rw [h] at q; rw [xs_BadRows_BadRows] at q; cases q))), (List.forall_mem_cons.mpr ⟨(by rw [ce_BadSteps, ce_BadSeen, show exSub "BadSteps" "BadSeen" = false from by decide +kernel]; exact kit_sub xi_BadSeen et_BadSeen xs_BadSteps_BadSeen (fun h => by (have q := xs_BadSteps_BadSeen; rw [h] at q; rw [xs_BadSeen_BadSeen] at q; cases q))), (List.forall_mem_cons.mpr ⟨(by rw [ce_BadSteps, ce_TooMany, show exSub "BadSteps" "TooMany" = false from by decide +kernel]; exact kit_sub xi_TooMany et_TooMany xs_BadSteps_TooMany (fun h => by (have q := xs_BadSteps_TooMany; rw [h] at q; rw [xs_TooMany_TooMany] at q; cases q))), (List.forall_mem_cons.mpr ⟨(by rw [ce_BadSteps, ce_BadChild, show exSub "BadSteps" "BadChild" = false from by decide +kernel]; exact kit_sub xi_BadChild et_BadChild xs_BadSteps_BadChild (fun h => by (have q := xs_BadSteps_BadChild; rw [h] at q; rw [xs_BadChild_BadChild] at q; cases q))), (List.forall_mem_cons.mpr ⟨(by rw [ce_BadSteps, ce_BadGift, show exSub "BadSteps" "BadGift" = false from by decide +kernel]; exact kit_sub xi_BadGift et_BadGift xs_BadSteps_BadGift (fun h => by (have q := xs_BadSteps_BadGift; rw [h] at q; rw [xs_BadGift_BadGift] at q; cases q))), (List.forall_mem_cons.mpr ⟨(by rw [ce_BadSteps, ce_BadText, show exSub "BadSteps" "BadText" = false from by decide +kernel]; exact kit_sub xi_BadText et_BadText xs_BadSteps_BadText (fun h => by (have q := xs_BadSteps_BadText; rw [h] at q; rw [xs_BadText_BadText] at q; cases q))), (List.forall_mem_cons.mpr ⟨(by rw [ce_BadSteps, ce_SweetError, show exSub "BadSteps" "SweetError" = true from by decide +kernel]; exact kit_sub xi_SweetError et_SweetError xs_BadSteps_SweetError (fun h => by rfl)), (fun _ h => nomatch h)⟩)⟩)⟩)⟩)⟩)⟩)⟩)⟩)⟩)⟩)⟩)⟩)⟩), (List.forall_mem_cons.mpr ⟨(List.forall_mem_cons.mpr ⟨(by rw [ce_BadSweets, ce_BadChildren, show exSub "BadSweets" "BadChildren" = false from by decide +kernel]; exact kit_sub xi_BadChildren et_BadChildren xs_BadSweets_BadChildren (fun h => by (have q := xs_BadSweets_BadChildren; rw [h] at q; rw [xs_BadChildren_BadChildren] at q; cases q))), (List.forall_mem_cons.mpr ⟨(by rw [ce_BadSweets, ce_BadParts, show exSub "BadSweets" "BadParts" = false from by decide +kernel]; exact kit_sub xi_BadParts et_BadParts xs_BadSweets_BadParts (fun h => by (have q := xs_BadSweets_BadParts; rw [h] at q; rw [xs_BadParts_BadParts] at q; cases q))), (List.forall_mem_cons.mpr ⟨(by rw [ce_BadSweets, ce_BadSteps, show exSub "BadSweets" "BadSteps" = false from by decide +kernel]; exact kit_sub xi_BadSteps et_BadSteps xs_BadSweets_BadSteps (fun h => by (have q := xs_BadSweets_BadSteps; rw [h] at q; rw [xs_BadSteps_BadSteps] at q; cases q))), (List.forall_mem_cons.mpr ⟨(by rw [ce_BadSweets, show exSub "BadSweets" "BadSweets" = true from by decide +kernel]; exact kit_sub xi_BadSweets et_BadSweets xs_BadSweets_BadSweets (fun h => by rfl)), (List.forall_mem_cons.mpr ⟨(by rw [ce_BadSweets, ce_BadRounds, show exSub "BadSweets" "BadRounds" = false from by decide +kernel]; exact kit_sub xi_BadRounds et_BadRounds xs_BadSweets_BadRounds (fun h => by (have q := xs_BadSweets_BadRounds; rw [h] at q; rw [xs_BadRounds_BadRounds] at q; cases q))), (List.forall_mem_cons.mpr ⟨(by rw [ce_BadSweets, ce_BadMost, show exSub "BadSweets" "BadMost" = false from by decide +kernel]; exact kit_sub xi_BadMost et_BadMost xs_BadSweets_BadMost (fun h => by (have q := xs_BadSweets_BadMost; rw [h] at q; rw [xs_BadMost_BadMost] at q; cases q))), (List.forall_mem_cons.mpr ⟨(by rw [ce_BadSweets, ce_BadRows, show exSub "BadSweets" "BadRows" = false from by decide +kernel]; exact kit_sub xi_BadRows et_BadRows xs_BadSweets_BadRows (fun h => by (have q := xs_BadSweets_BadRows; rw [h] at q; rw [xs_BadRows_BadRows] at q; cases q))), (List.forall_mem_cons.mpr ⟨(by rw [ce_BadSweets, ce_BadSeen, show exSub "BadSweets" "BadSeen" = false from by decide +kernel]; exact kit_sub xi_BadSeen et_BadSeen xs_BadSweets_BadSeen (fun h => by (have q := xs_BadSweets_BadSeen; rw [h] at q; rw [xs_BadSeen_BadSeen] at q; cases q))), (List.forall_mem_cons.mpr ⟨(by rw [ce_BadSweets, ce_TooMany, show exSub "BadSweets" "TooMany" = false from by decide +kernel]; exact kit_sub xi_TooMany et_TooMany xs_BadSweets_TooMany (fun h => by (have q := xs_BadSweets_TooMany; rw [h] at q; rw [xs_TooMany_TooMany] at q; cases q))), (List.forall_mem_cons.mpr ⟨(by rw [ce_BadSweets, ce_BadChild, show exSub "BadSweets" "BadChild" = false from by decide +kernel]; exact kit_sub xi_BadChild et_BadChild xs_BadSweets_BadChild (fun h => by (have q := xs_BadSweets_BadChild; rw [h] at q; rw [xs_BadChild_BadChild] at q; cases q))), (List.forall_mem_cons.mpr ⟨(by rw [ce_BadSweets, ce_BadGift, show exSub "BadSweets" "BadGift" = false from by decide +kernel]; exact kit_sub xi_BadGift et_BadGift xs_BadSweets_BadGift (fun h => by (have q := xs_BadSweets_BadGift; rw [h] at q; rw [xs_BadGift_BadGift] at q; cases q))), (List.forall_mem_cons.mpr ⟨(by rw [ce_BadSweets, ce_BadText, show exSub "BadSweets" "BadText" = false from by decide +kernel]; exact kit_sub xi_BadText et_BadText xs_BadSweets_BadText (fun h => by (have q := xs_BadSweets_BadText; rw [h] at q; rw [xs_BadText_BadText] at q; cases q))), (List.forall_mem_cons.mpr ⟨(by rw [ce_BadSweets, ce_SweetError, show exSub "BadSweets" "SweetError" = true from by decide +kernel]; exact kit_sub xi_SweetError et_SweetError xs_BadSweets_SweetError (fun h => by rfl)), (fun _ h => nomatch h)⟩)⟩)⟩)⟩)⟩)⟩)⟩)⟩)⟩)⟩)⟩)⟩)⟩), (List.forall_mem_cons.mpr ⟨(List.forall_mem_cons.mpr ⟨(by rw [ce_BadRounds, ce_BadChildren, show exSub "BadRounds" "BadChildren" = false from by decide +kernel]; exact kit_sub xi_BadChildren et_BadChildren xs_BadRounds_BadChildren (fun h => by (have q := xs_BadRounds_BadChildren; rw [h] at q; rw [xs_BadChildren_BadChildren] at q; cases q))), (List.forall_mem_cons.mpr ⟨(by rw [ce_BadRounds, ce_BadParts, show exSub "BadRounds" "BadParts" = false from by decide +kernel]; exact kit_sub xi_BadParts et_BadParts xs_BadRounds_BadParts (fun h => by (have q := xs_BadRounds_BadParts; rw [h] at q; rw [xs_BadParts_BadParts] at q; cases q))), (List.forall_mem_cons.mpr ⟨(by rw [ce_BadRounds, ce_BadSteps, show exSub "BadRounds" "BadSteps" = false from by decide +kernel]; exact kit_sub xi_BadSteps et_BadSteps xs_BadRounds_BadSteps (fun h => by (have q := xs_BadRounds_BadSteps; rw [h] at q; rw [xs_BadSteps_BadSteps] at q; cases q))), (List.forall_mem_cons.mpr ⟨(by rw [ce_BadRounds, ce_BadSweets, show exSub "BadRounds" "BadSweets" = false from by decide +kernel]; exact kit_sub xi_BadSweets et_BadSweets xs_BadRounds_BadSweets (fun h => by (have q := xs_BadRounds_BadSweets; rw [h] at q; rw [xs_BadSweets_BadSweets] at q; cases q))), (List.forall_mem_cons.mpr ⟨(by rw [ce_BadRounds, show exSub "BadRounds" "BadRounds" = true from by decide +kernel]; exact kit_sub xi_BadRounds et_BadRounds xs_BadRounds_BadRounds (fun h => by rfl)), (List.forall_mem_cons.mpr ⟨(by rw [ce_BadRounds, ce_BadMost, show exSub "BadRounds" "BadMost" = false from by decide +kernel]; exact kit_sub xi_BadMost et_BadMost xs_BadRounds_BadMost (fun h => by (have q := xs_BadRounds_BadMost; rw [h] at q; rw [xs_BadMost_BadMost] at q; cases q))), (List.forall_mem_cons.mpr ⟨(by rw [ce_BadRounds, ce_BadRows, show exSub "BadRounds" "BadRows" = false from by decide +kernel]; exact kit_sub xi_BadRows et_BadRows xs_BadRounds_BadRows (fun h => by (have q := xs_BadRounds_BadRows; rw [h] at q; rw [xs_BadRows_BadRows] at q; cases q))), (List.forall_mem_cons.mpr ⟨(by rw [ce_BadRounds, ce_BadSeen, show exSub "BadRounds" "BadSeen" = false from by decide +kernel]; exact kit_sub xi_BadSeen et_BadSeen xs_BadRounds_BadSeen (fun h => by (have q := xs_BadRounds_BadSeen; rw [h] at q; rw [xs_BadSeen_BadSeen] at q; cases q))), (List.forall_mem_cons.mpr ⟨(by rw [ce_BadRounds, ce_TooMany, show exSub "BadRounds" "TooMany" = false from by decide +kernel]; exact kit_sub xi_TooMany et_TooMany xs_BadRounds_TooMany (fun h => by (have q := xs_BadRounds_TooMany; rw [h] at q; rw [xs_TooMany_TooMany] at q; cases q))), (List.forall_mem_cons.mpr ⟨(by rw [ce_BadRounds, ce_BadChild, show exSub "BadRounds" "BadChild" = false from by decide +kernel]; exact kit_sub xi_BadChild et_BadChild xs_BadRounds_BadChild (fun h => by (have q := xs_BadRounds_BadChild; rw [h] at q; rw [xs_BadChild_BadChild] at q; cases q))), (List.forall_mem_cons.mpr ⟨(by rw [ce_BadRounds, ce_BadGift, show exSub "BadRounds" "BadGift" = false from by decide +kernel]; exact kit_sub xi_BadGift et_BadGift xs_BadRounds_BadGift (fun h => by (have q := xs_BadRounds_BadGift; rw [h] at q; rw [xs_BadGift_BadGift] at q; cases q))), (List.forall_mem_cons.mpr ⟨(by rw [ce_BadRounds, ce_BadText, show exSub "BadRounds" "BadText" = false from by decide +kernel]; exact kit_sub xi_BadText et_BadText xs_BadRounds_BadText (fun h => by (have q := xs_BadRounds_BadText; rw [h] at q; rw [xs_BadText_BadText] at q; cases q))), (List.forall_mem_cons.mpr ⟨(by rw [ce_BadRounds, ce_SweetError, show exSub "BadRounds" "SweetError" = true from by decide +kernel]; exact kit_sub xi_SweetError et_SweetError xs_BadRounds_SweetError (fun h => by rfl)), (fun _ h => nomatch h)⟩)⟩)⟩)⟩)⟩)⟩)⟩)⟩)⟩)⟩)⟩)⟩)⟩), (List.forall_mem_cons.mpr ⟨(List.forall_mem_cons.mpr ⟨(by rw [ce_BadMost, ce_BadChildren, show exSub "BadMost" "BadChildren" = false from by decide +kernel]; exact kit_sub xi_BadChildren et_BadChildren xs_BadMost_BadChildren (fun h => by (have q := xs_BadMost_BadChildren; rw [h] at q; rw [xs_BadChildren_BadChildren] at q; cases q))), (List.forall_mem_cons.mpr ⟨(by rw [ce_BadMost, ce_BadParts, show exSub "BadMost" "BadParts" = false from by decide +kernel]; exact kit_sub xi_BadParts et_BadParts xs_BadMost_BadParts (fun h => by (have q := xs_BadMost_BadParts; rw [h] at q; rw [xs_BadParts_BadParts] at q; cases q))), (List.forall_mem_cons.mpr ⟨(by rw [ce_BadMost, ce_BadSteps, show exSub "BadMost" "BadSteps" = false from by decide +kernel]; exact kit_sub xi_BadSteps et_BadSteps xs_BadMost_BadSteps (fun h => by (have q := xs_BadMost_BadSteps; rw [h] at q; rw [xs_BadSteps_BadSteps] at q; cases q))), (List.forall_mem_cons.mpr ⟨(by rw [ce_BadMost, ce_BadSweets, show exSub "BadMost" "BadSweets" = false from by decide +kernel]; exact kit_sub xi_BadSweets et_BadSweets xs_BadMost_BadSweets (fun h => by (have q := xs_BadMost_BadSweets; rw [h] at q; rw [xs_BadSweets_BadSweets] at q; cases q))), (List.forall_mem_cons.mpr ⟨(by rw [ce_BadMost, ce_BadRounds, show exSub "BadMost" "BadRounds" = false from by decide +kernel]; exact kit_sub xi_BadRounds et_BadRounds xs_BadMost_BadRounds (fun h => by (have q := xs_BadMost_BadRounds; rw [h] at q; rw [xs_BadRounds_BadRounds] at q; cases q))), (List.forall_mem_cons.mpr ⟨(by rw [ce_BadMost, show exSub "BadMost" "BadMost" = true from by decide +kernel]; exact kit_sub xi_BadMost et_BadMost xs_BadMost_BadMost (fun h => by rfl)), (List.forall_mem_cons.mpr ⟨(by rw [ce_BadMost, ce_BadRows, show exSub "BadMost" "BadRows" = false from by decide +kernel]; exact kit_sub xi_BadRows et_BadRows xs_BadMost_BadRows (fun h => by (have q := xs_BadMost_BadRows; rw [h] at q; rw [xs_BadRows_BadRows] at q; cases q))), (List.forall_mem_cons.mpr ⟨(by rw [ce_BadMost, ce_BadSeen, show exSub "BadMost" "BadSeen" = false from by decide +kernel]; exact kit_sub xi_BadSeen et_BadSeen xs_BadMost_BadSeen (fun h => by (have q := xs_BadMost_BadSeen; rw [h] at q; rw [xs_BadSeen_BadSeen] at q; cases q))), (List.forall_mem_cons.mpr ⟨(by rw [ce_BadMost, ce_TooMany, show exSub "BadMost" "TooMany" = false from by decide +kernel]; exact kit_sub xi_TooMany et_TooMany xs_BadMost_TooMany (fun h => by (have q := xs_BadMost_TooMany; rw [h] at q; rw [xs_TooMany_TooMany] at q; cases q))), (List.forall_mem_cons.mpr ⟨(by rw [ce_BadMost, ce_BadChild, show exSub "BadMost" "BadChild" = false from by decide +kernel]; exact kit_sub xi_BadChild et_BadChild xs_BadMost_BadChild (fun h => by (have q := xs_BadMost_BadChild; rw [h] at q; rw [xs_BadChild_BadChild] at q; cases q))), (List.forall_mem_cons.mpr ⟨(by rw [ce_BadMost, ce_BadGift, show exSub "BadMost" "BadGift" = false from by decide +kernel]; exact kit_sub xi_BadGift et_BadGift xs_BadMost_BadGift (fun h => by (have q := xs_BadMost_BadGift; rw [h] at q; rw [xs_BadGift_BadGift] at q; cases q))), (List.forall_mem_cons.mpr ⟨(by rw [ce_BadMost, ce_BadText, show exSub "BadMost" "BadText" = false from by decide +kernel]; exact kit_sub xi_BadText et_BadText xs_BadMost_BadText (fun h => by (have q := xs_BadMost_BadText; rw [h] at q; rw [xs_BadText_BadText] at q; cases q))), (List.forall_mem_cons.mpr ⟨(by rw [ce_BadMost, ce_SweetError, show exSub "BadMost" "SweetError" = true from by decide +kernel]; exact kit_sub xi_SweetError et_SweetError xs_BadMost_SweetError (fun h => by rfl)), (fun _ h => nomatch h)⟩)⟩)⟩)⟩)⟩)⟩)⟩)⟩)⟩)⟩)⟩)⟩)⟩), (List.forall_mem_cons.mpr ⟨(List.forall_mem_cons.mpr ⟨(by rw [ce_BadRows, ce_BadChildren, show exSub "BadRows" "BadChildren" = false from by decide +kernel]; exact kit_sub xi_BadChildren et_BadChildren xs_BadRows_BadChildren (fun h => by (have q := xs_BadRows_BadChildren; rw [h] at q; rw [xs_BadChildren_BadChildren] at q; cases q))), (List.forall_mem_cons.mpr ⟨(by rw [ce_BadRows, ce_BadParts, show exSub "BadRows" "BadParts" = false from by decide +kernel]; exact kit_sub xi_BadParts et_BadParts xs_BadRows_BadParts (fun h => by (have q := xs_BadRows_BadParts; rw [h] at q; rw [xs_BadParts_BadParts] at q; cases q))), (List.forall_mem_cons.mpr ⟨(by rw [ce_BadRows, ce_BadSteps, show exSub "BadRows" "BadSteps" = false from by decide +kernel]; exact kit_sub xi_BadSteps et_BadSteps xs_BadRows_BadSteps (fun h => by (have q := xs_BadRows_BadSteps; rw [h] at q; rw [xs_BadSteps_BadSteps] at q; cases q))), (List.forall_mem_cons.mpr ⟨(by rw [ce_BadRows, ce_BadSweets, show exSub "BadRows" "BadSweets" = false from by decide +kernel]; exact kit_sub xi_BadSweets et_BadSweets xs_BadRows_BadSweets (fun h => by (have q := xs_BadRows_BadSweets; rw [h] at q; rw [xs_BadSweets_BadSweets] at q; cases q))), (List.forall_mem_cons.mpr ⟨(by rw [ce_BadRows, ce_BadRounds, show exSub "BadRows" "BadRounds" = false from by decide +kernel]; exact kit_sub xi_BadRounds et_BadRounds xs_BadRows_BadRounds (fun h => by (have q := xs_BadRows_BadRounds; rw [h] at q; rw [xs_BadRounds_BadRounds] at q; cases q))), (List.forall_mem_cons.mpr ⟨(by rw [ce_BadRows, ce_BadMost, show exSub "BadRows" "BadMost" = false from by decide +kernel]; exact kit_sub xi_BadMost et_BadMost xs_BadRows_BadMost (fun h => by (have q := xs_BadRows_BadMost; rw [h] at q; rw [xs_BadMost_BadMost] at q; cases q))), (List.forall_mem_cons.mpr ⟨(by rw [ce_BadRows, show exSub "BadRows" "BadRows" = true from by decide +kernel]; exact kit_sub xi_BadRows et_BadRows xs_BadRows_BadRows (fun h => by rfl)), (List.forall_mem_cons.mpr ⟨(by rw [ce_BadRows, ce_BadSeen, show exSub "BadRows" "BadSeen" = false from by decide +kernel]; exact kit_sub xi_BadSeen et_BadSeen xs_BadRows_BadSeen (fun h => by (have q := xs_BadRows_BadSeen; rw [h] at q; rw [xs_BadSeen_BadSeen] at q; cases q))), (List.forall_mem_cons.mpr ⟨(by rw [ce_BadRows, ce_TooMany, show exSub "BadRows" "TooMany" = false from by decide +kernel]; exact kit_sub xi_TooMany et_TooMany xs_BadRows_TooMany (fun h => by (have q := xs_BadRows_TooMany; rw [h] at q; rw [xs_TooMany_TooMany] at q; cases q))), (List.forall_mem_cons.mpr ⟨(by rw [ce_BadRows, ce_BadChild, show exSub "BadRows" "BadChild" = false from by decide +kernel]; exact kit_sub xi_BadChild et_BadChild xs_BadRows_BadChild (fun h => by (have q := xs_BadRows_BadChild; rw [h] at q; rw [xs_BadChild_BadChild] at q; cases q))), (List.forall_mem_cons.mpr ⟨(by rw [ce_BadRows, ce_BadGift, show exSub "BadRows" "BadGift" = false from by decide +kernel]; exact kit_sub xi_BadGift et_BadGift xs_BadRows_BadGift (fun h => by (have q := xs_BadRows_BadGift; rw [h] at q; rw [xs_BadGift_BadGift] at q; cases q))), (List.forall_mem_cons.mpr ⟨(by rw [ce_BadRows, ce_BadText, show exSub "BadRows" "BadText" = false from by decide +kernel]; exact kit_sub xi_BadText et_BadText xs_BadRows_BadText (fun h => by (have q := xs_BadRows_BadText; rw [h] at q; rw [xs_BadText_BadText] at q; cases q))), (List.forall_mem_cons.mpr ⟨(by rw [ce_BadRows, ce_SweetError, show exSub "BadRows" "SweetError" = true from by decide +kernel]; exact kit_sub xi_SweetError et_SweetError xs_BadRows_SweetError (fun h => by rfl)), (fun _ h => nomatch h)⟩)⟩)⟩)⟩)⟩)⟩)⟩)⟩)⟩)⟩)⟩)⟩)⟩), (List.forall_mem_cons.mpr ⟨(List.forall_mem_cons.mpr ⟨(by rw [ce_BadSeen, ce_BadChildren, show exSub "BadSeen" "BadChildren" = false from by decide +kernel]; exact kit_sub xi_BadChildren et_BadChildren xs_BadSeen_BadChildren (fun h => by (have q := xs_BadSeen_BadChildren; rw [h] at q; rw [xs_BadChildren_BadChildren] at q; cases q))), (List.forall_mem_cons.mpr ⟨(by rw [ce_BadSeen, ce_BadParts, show exSub "BadSeen" "BadParts" = false from by decide +kernel]; exact kit_sub xi_BadParts et_BadParts xs_BadSeen_BadParts (fun h => by (have q := xs_BadSeen_BadParts; rw [h] at q; rw [xs_BadParts_BadParts] at q; cases q))), (List.forall_mem_cons.mpr ⟨(by rw [ce_BadSeen, ce_BadSteps, show exSub "BadSeen" "BadSteps" = false from by decide +kernel]; exact kit_sub xi_BadSteps et_BadSteps xs_BadSeen_BadSteps (fun h => by (have q := xs_BadSeen_BadSteps; rw [h] at q; rw [xs_BadSteps_BadSteps] at q; cases q))), (List.forall_mem_cons.mpr ⟨(by rw [ce_BadSeen, ce_BadSweets, show exSub "BadSeen" "BadSweets" = false from by decide +kernel]; exact kit_sub xi_BadSweets et_BadSweets xs_BadSeen_BadSweets (fun h => by (have q := xs_BadSeen_BadSweets; rw [h] at q; rw [xs_BadSweets_BadSweets] at q; cases q))), (List.forall_mem_cons.mpr ⟨(by rw [ce_BadSeen, ce_BadRounds, show exSub "BadSeen" "BadRounds" = false from by decide +kernel]; exact kit_sub xi_BadRounds et_BadRounds xs_BadSeen_BadRounds (fun h => by (have q := xs_BadSeen_BadRounds; rw [h] at q; rw [xs_BadRounds_BadRounds] at q; cases q))), (List.forall_mem_cons.mpr ⟨(by rw [ce_BadSeen, ce_BadMost, show exSub "BadSeen" "BadMost" = false from by decide +kernel]; exact kit_sub xi_BadMost et_BadMost xs_BadSeen_BadMost (fun h => by (have q := xs_BadSeen_BadMost; rw [h] at q; rw [xs_BadMost_BadMost] at q; cases q))), (List.forall_mem_cons.mpr ⟨(by rw [ce_BadSeen, ce_BadRows, show exSub "BadSeen" "BadRows" = false from by decide +kernel]; exact kit_sub xi_BadRows et_BadRows xs_BadSeen_BadRows (fun h => by (have q := xs_BadSeen_BadRows; rw [h] at q; rw [xs_BadRows_BadRows] at q; cases q))), (List.forall_mem_cons.mpr ⟨(by rw [ce_BadSeen, show exSub "BadSeen" "BadSeen" = true from by decide +kernel]; exact kit_sub xi_BadSeen et_BadSeen xs_BadSeen_BadSeen (fun h => by rfl)), (List.forall_mem_cons.mpr ⟨(by rw [ce_BadSeen, ce_TooMany, show exSub "BadSeen" "TooMany" = false from by decide +kernel]; exact kit_sub xi_TooMany et_TooMany xs_BadSeen_TooMany (fun h => by (have q := xs_BadSeen_TooMany; rw [h] at q; rw [xs_TooMany_TooMany] at q; cases q))), (List.forall_mem_cons.mpr ⟨(by rw [ce_BadSeen, ce_BadChild, show exSub "BadSeen" "BadChild" = false from by decide +kernel]; exact kit_sub xi_BadChild et_BadChild xs_BadSeen_BadChild (fun h => by (have q := xs_BadSeen_BadChild; rw [h] at q; rw [xs_BadChild_BadChild] at q; cases q))), (List.forall_mem_cons.mpr ⟨(by rw [ce_BadSeen, ce_BadGift, show exSub "BadSeen" "BadGift" = false from by decide +kernel]; exact kit_sub xi_BadGift et_BadGift xs_BadSeen_BadGift (fun h => by (have q := xs_BadSeen_BadGift; rw [h] at q; rw [xs_BadGift_BadGift] at q; cases q))), (List.forall_mem_cons.mpr ⟨(by rw [ce_BadSeen, ce_BadText, show exSub "BadSeen" "BadText" = false from by decide +kernel]; exact kit_sub xi_BadText et_BadText xs_BadSeen_BadText (fun h => by (have q := xs_BadSeen_BadText; rw [h] at q; rw [xs_BadText_BadText] at q; cases q))), (List.forall_mem_cons.mpr ⟨(by rw [ce_BadSeen, ce_SweetError, show exSub "BadSeen" "SweetError" = true from by decide +kernel]; exact kit_sub xi_SweetError et_SweetError xs_BadSeen_SweetError (fun h => by rfl)), (fun _ h => nomatch h)⟩)⟩)⟩)⟩)⟩)⟩)⟩)⟩)⟩)⟩)⟩)⟩)⟩), (List.forall_mem_cons.mpr ⟨(List.forall_mem_cons.mpr ⟨(by rw [ce_TooMany, ce_BadChildren, show exSub "TooMany" "BadChildren" = false from by decide +kernel]; exact kit_sub xi_BadChildren et_BadChildren xs_TooMany_BadChildren (fun h => by (have q := xs_TooMany_BadChildren; rw [h] at q; rw [xs_BadChildren_BadChildren] at q; cases q))), (List.forall_mem_cons.mpr ⟨(by rw [ce_TooMany, ce_BadParts, show exSub "TooMany" "BadParts" = false from by decide +kernel]; exact kit_sub xi_BadParts et_BadParts xs_TooMany_BadParts (fun h => by (have q := xs_TooMany_BadParts; rw [h] at q; rw [xs_BadParts_BadParts] at q; cases q))), (List.forall_mem_cons.mpr ⟨(by rw [ce_TooMany, ce_BadSteps, show exSub "TooMany" "BadSteps" = false from by decide +kernel]; exact kit_sub xi_BadSteps et_BadSteps xs_TooMany_BadSteps (fun h => by (have q := xs_TooMany_BadSteps; rw [h] at q; rw [xs_BadSteps_BadSteps] at q; cases q))), (List.forall_mem_cons.mpr ⟨(by rw [ce_TooMany, ce_BadSweets, show exSub "TooMany" "BadSweets" = false from by decide +kernel]; exact kit_sub xi_BadSweets et_BadSweets xs_TooMany_BadSweets (fun h => by (have q := xs_TooMany_BadSweets; rw [h] at q; rw [xs_BadSweets_BadSweets] at q; cases q))), (List.forall_mem_cons.mpr ⟨(by rw [ce_TooMany, ce_BadRounds, show exSub "TooMany" "BadRounds" = false from by decide +kernel]; exact kit_sub xi_BadRounds et_BadRounds xs_TooMany_BadRounds (fun h => by (have q := xs_TooMany_BadRounds; rw [h] at q; rw [xs_BadRounds_BadRounds] at q; cases q))), (List.forall_mem_cons.mpr ⟨(by rw [ce_TooMany, ce_BadMost, show exSub "TooMany" "BadMost" = false from by decide +kernel]; exact kit_sub xi_BadMost et_BadMost xs_TooMany_BadMost (fun h => by (have q := xs_TooMany_BadMost; rw [h] at q; rw [xs_BadMost_BadMost] at q; cases q))), (List.forall_mem_cons.mpr ⟨(by rw [ce_TooMany, ce_BadRows, show exSub "TooMany" "BadRows" = false from by decide +kernel]; exact kit_sub xi_BadRows et_BadRows xs_TooMany_BadRows (fun h => by (have q := xs_TooMany_BadRows; rw [h] at q; rw [xs_BadRows_BadRows] at q; cases q))), (List.forall_mem_cons.mpr ⟨(by rw [ce_TooMany, ce_BadSeen, show exSub "TooMany" "BadSeen" = false from by decide +kernel]; exact kit_sub xi_BadSeen et_BadSeen xs_TooMany_BadSeen (fun h => by (have q := xs_TooMany_BadSeen; rw [h] at q; rw [xs_BadSeen_BadSeen] at q; cases q))), (List.forall_mem_cons.mpr ⟨(by rw [ce_TooMany, show exSub "TooMany" "TooMany" = true from by decide +kernel]; exact kit_sub xi_TooMany et_TooMany xs_TooMany_TooMany (fun h => by rfl)), (List.forall_mem_cons.mpr ⟨(by rw [ce_TooMany, ce_BadChild, show exSub "TooMany" "BadChild" = false from by decide +kernel]; exact kit_sub xi_BadChild et_BadChild xs_TooMany_BadChild (fun h => by (have q := xs_TooMany_BadChild; rw [h] at q; rw [xs_BadChild_BadChild] at q; cases q))), (List.forall_mem_cons.mpr ⟨(by rw [ce_TooMany, ce_BadGift, show exSub "TooMany" "BadGift" = false from by decide +kernel]; exact kit_sub xi_BadGift et_BadGift xs_TooMany_BadGift (fun h => by (have q := xs_TooMany_BadGift; rw [h] at q; rw [xs_BadGift_BadGift] at q; cases q))), (List.forall_mem_cons.mpr ⟨(by rw [ce_TooMany, ce_BadText, show exSub "TooMany" "BadText" = false from by decide +kernel]; exact kit_sub xi_BadText et_BadText xs_TooMany_BadText (fun h => by (have q := xs_TooMany_BadText; rw [h] at q; rw [xs_BadText_BadText] at q; cases q))), (List.forall_mem_cons.mpr ⟨(by rw [ce_TooMany, ce_SweetError, show exSub "TooMany" "SweetError" = true from by decide +kernel]; exact kit_sub xi_SweetError et_SweetError xs_TooMany_SweetError (fun h => by rfl)), (fun _ h => nomatch h)⟩)⟩)⟩)⟩)⟩)⟩)⟩)⟩)⟩)⟩)⟩)⟩)⟩), (List.forall_mem_cons.mpr ⟨(List.forall_mem_cons.mpr ⟨(by rw [ce_BadChild, ce_BadChildren, show exSub "BadChild" "BadChildren" = false from by decide +kernel]; exact kit_sub xi_BadChildren et_BadChildren xs_BadChild_BadChildren (fun h => by (have q := xs_BadChild_BadChildren; rw [h] at q; rw [xs_BadChildren_BadChildren] at q; cases q))), (List.forall_mem_cons.mpr ⟨(by rw [ce_BadChild, ce_BadParts, show exSub "BadChild" "BadParts" = false from by decide +kernel]; exact kit_sub xi_BadParts et_BadParts xs_BadChild_BadParts (fun h => by (have q := xs_BadChild_BadParts; rw [h] at q; rw [xs_BadParts_BadParts] at q; cases q))), (List.forall_mem_cons.mpr ⟨(by rw [ce_BadChild, ce_BadSteps, show exSub "BadChild" "BadSteps" = false from by decide +kernel]; exact kit_sub xi_BadSteps et_BadSteps xs_BadChild_BadSteps (fun h => by (have q := xs_BadChild_BadSteps; rw [h] at q; rw [xs_BadSteps_BadSteps] at q; cases q))), (List.forall_mem_cons.mpr ⟨(by rw [ce_BadChild, ce_BadSweets, show exSub "BadChild" "BadSweets" = false from by decide +kernel]; exact kit_sub xi_BadSweets et_BadSweets xs_BadChild_BadSweets (fun h => by (have q := xs_BadChild_BadSweets; rw [h] at q; rw [xs_BadSweets_BadSweets] at q; cases q))), (List.forall_mem_cons.mpr ⟨(by rw [ce_BadChild, ce_BadRounds, show exSub "BadChild" "BadRounds" = false from by decide +kernel]; exact kit_sub xi_BadRounds et_BadRounds xs_BadChild_BadRounds (fun h => by (have q := xs_BadChild_BadRounds; rw [h] at q; rw [xs_BadRounds_BadRounds] at q; cases q))), (List.forall_mem_cons.mpr ⟨(by rw [ce_BadChild, ce_BadMost, show exSub "BadChild" "BadMost" = false from by decide +kernel]; exact kit_sub xi_BadMost et_BadMost xs_BadChild_BadMost (fun h => by (have q := xs_BadChild_BadMost; rw [h] at q; rw [xs_BadMost_BadMost] at q; cases q))), (List.forall_mem_cons.mpr ⟨(by rw [ce_BadChild, ce_BadRows, show exSub "BadChild" "BadRows" = false from by decide +kernel]; exact kit_sub xi_BadRows et_BadRows xs_BadChild_BadRows (fun h => by (have q := xs_BadChild_BadRows; rw [h] at q; rw [xs_BadRows_BadRows] at q; cases q))), (List.forall_mem_cons.mpr ⟨(by rw [ce_BadChild, ce_BadSeen, show exSub "BadChild" "BadSeen" = false from by decide +kernel]; exact kit_sub xi_BadSeen et_BadSeen xs_BadChild_BadSeen (fun h => by (have q := xs_BadChild_BadSeen; rw [h] at q; rw [xs_BadSeen_BadSeen] at q; cases q))), (List.forall_mem_cons.mpr ⟨(by rw [ce_BadChild, ce_TooMany, show exSub "BadChild" "TooMany" = false from by decide +kernel]; exact kit_sub xi_TooMany et_TooMany xs_BadChild_TooMany (fun h => by (have q := xs_BadChild_TooMany; rw [h] at q; rw [xs_TooMany_TooMany] at q; cases q))), (List.forall_mem_cons.mpr ⟨(by rw [ce_BadChild, show exSub "BadChild" "BadChild" = true from by decide +kernel]; exact kit_sub xi_BadChild et_BadChild xs_BadChild_BadChild (fun h => by rfl)), (List.forall_mem_cons.mpr ⟨(by rw [ce_BadChild, ce_BadGift, show exSub "BadChild" "BadGift" = false from by decide +kernel]; exact kit_sub xi_BadGift et_BadGift xs_BadChild_BadGift (fun h => by (have q := xs_BadChild_BadGift; rw [h] at q; rw [xs_BadGift_BadGift] at q; cases q))), (List.forall_mem_cons.mpr ⟨(by rw [ce_BadChild, ce_BadText, show exSub "BadChild" "BadText" = false from by decide +kernel]; exact kit_sub xi_BadText et_BadText xs_BadChild_BadText (fun h => by (have q := xs_BadChild_BadText; rw [h] at q; rw [xs_BadText_BadText] at q; cases q))), (List.forall_mem_cons.mpr ⟨(by rw [ce_BadChild, ce_SweetError, show exSub "BadChild" "SweetError" = true from by decide +kernel]; exact kit_sub xi_SweetError et_SweetError xs_BadChild_SweetError (fun h => by rfl)), (fun _ h => nomatch h)⟩)⟩)⟩)⟩)⟩)⟩)⟩)⟩)⟩)⟩)⟩)⟩)⟩), (List.forall_mem_cons.mpr ⟨(List.forall_mem_cons.mpr ⟨(by rw [ce_BadGift, ce_BadChildren, show exSub "BadGift" "BadChildren" = false from by decide +kernel]; exact kit_sub xi_BadChildren et_BadChildren xs_BadGift_BadChildren (fun h => by (have q := xs_BadGift_BadChildren; rw [h] at q; rw [xs_BadChildren_BadChildren] at q; cases q))), (List.forall_mem_cons.mpr ⟨(by rw [ce_BadGift, ce_BadParts, show exSub "BadGift" "BadParts" = false from by decide +kernel]; exact kit_sub xi_BadParts et_BadParts xs_BadGift_BadParts (fun h => by (have q := xs_BadGift_BadParts; rw [h] at q; rw [xs_BadParts_BadParts] at q; cases q))), (List.forall_mem_cons.mpr ⟨(by rw [ce_BadGift, ce_BadSteps, show exSub "BadGift" "BadSteps" = false from by decide +kernel]; exact kit_sub xi_BadSteps et_BadSteps xs_BadGift_BadSteps (fun h => by (have q := xs_BadGift_BadSteps; rw [h] at q; rw [xs_BadSteps_BadSteps] at q; cases q))), (List.forall_mem_cons.mpr ⟨(by rw [ce_BadGift, ce_BadSweets, show exSub "BadGift" "BadSweets" = false from by decide +kernel]; exact kit_sub xi_BadSweets et_BadSweets xs_BadGift_BadSweets (fun h => by (have q := xs_BadGift_BadSweets; rw [h] at q; rw [xs_BadSweets_BadSweets] at q; cases q))), (List.forall_mem_cons.mpr ⟨(by rw [ce_BadGift, ce_BadRounds, show exSub "BadGift" "BadRounds" = false from by decide +kernel]; exact kit_sub xi_BadRounds et_BadRounds xs_BadGift_BadRounds (fun h => by (have q := xs_BadGift_BadRounds; rw [h] at q; rw [xs_BadRounds_BadRounds] at q; cases q))), (List.forall_mem_cons.mpr ⟨(by rw [ce_BadGift, ce_BadMost, show exSub "BadGift" "BadMost" = false from by decide +kernel]; exact kit_sub xi_BadMost et_BadMost xs_BadGift_BadMost (fun h => by (have q := xs_BadGift_BadMost; rw [h] at q; rw [xs_BadMost_BadMost] at q; cases q))), (List.forall_mem_cons.mpr ⟨(by rw [ce_BadGift, ce_BadRows, show exSub "BadGift" "BadRows" = false from by decide +kernel]; exact kit_sub xi_BadRows et_BadRows xs_BadGift_BadRows (fun h => by (have q := xs_BadGift_BadRows; rw [h] at q; rw [xs_BadRows_BadRows] at q; cases q))), (List.forall_mem_cons.mpr ⟨(by rw [ce_BadGift, ce_BadSeen, show exSub "BadGift" "BadSeen" = false from by decide +kernel]; exact kit_sub xi_BadSeen et_BadSeen xs_BadGift_BadSeen (fun h => by (have q := xs_BadGift_BadSeen; rw [h] at q; rw [xs_BadSeen_BadSeen] at q; cases q))), (List.forall_mem_cons.mpr ⟨(by rw [ce_BadGift, ce_TooMany, show exSub "BadGift" "TooMany" = false from by decide +kernel]; exact kit_sub xi_TooMany et_TooMany xs_BadGift_TooMany (fun h => by (have q := xs_BadGift_TooMany; rw [h] at q; rw [xs_TooMany_TooMany] at q; cases q))), (List.forall_mem_cons.mpr ⟨(by rw [ce_BadGift, ce_BadChild, show exSub "BadGift" "BadChild" = false from by decide +kernel]; exact kit_sub xi_BadChild et_BadChild xs_BadGift_BadChild (fun h => by (have q := xs_BadGift_BadChild; rw [h] at q; rw [xs_BadChild_BadChild] at q; cases q))), (List.forall_mem_cons.mpr ⟨(by rw [ce_BadGift, show exSub "BadGift" "BadGift" = true from by decide +kernel]; exact kit_sub xi_BadGift et_BadGift xs_BadGift_BadGift (fun h => by rfl)), (List.forall_mem_cons.mpr ⟨(by rw [ce_BadGift, ce_BadText, show exSub "BadGift" "BadText" = false from by decide +kernel]; exact kit_sub xi_BadText et_BadText xs_BadGift_BadText (fun h => by (have q := xs_BadGift_BadText; rw [h] at q; rw [xs_BadText_BadText] at q; cases q))), (List.forall_mem_cons.mpr ⟨(by rw [ce_BadGift, ce_SweetError, show exSub "BadGift" "SweetError" = true from by decide +kernel]; exact kit_sub xi_SweetError et_SweetError xs_BadGift_SweetError (fun h => by rfl)), (fun _ h => nomatch h)⟩)⟩)⟩)⟩)⟩)⟩)⟩)⟩)⟩)⟩)⟩)⟩)⟩), (List.forall_mem_cons.mpr ⟨(List.forall_mem_cons.mpr ⟨(by rw [ce_BadText, ce_BadChildren, show exSub "BadText" "BadChildren" = false from by decide +kernel]; exact kit_sub xi_BadChildren et_BadChildren xs_BadText_BadChildren (fun h => by (have q := xs_BadText_BadChildren; rw [h] at q; rw [xs_BadChildren_BadChildren] at q; cases q))), (List.forall_mem_cons.mpr ⟨(by rw [ce_BadText, ce_BadParts, show exSub "BadText" "BadParts" = false from by decide +kernel]; exact kit_sub xi_BadParts et_BadParts xs_BadText_BadParts (fun h => by (have q := xs_BadText_BadParts; rw [h] at q; rw [xs_BadParts_BadParts] at q; cases q))), (List.forall_mem_cons.mpr ⟨(by rw [ce_BadText, ce_BadSteps, show exSub "BadText" "BadSteps" = false from by decide +kernel]; exact kit_sub xi_BadSteps et_BadSteps xs_BadText_BadSteps (fun h => by (have q := xs_BadText_BadSteps; rw [h] at q; rw [xs_BadSteps_BadSteps] at q; cases q))), (List.forall_mem_cons.mpr ⟨(by rw [ce_BadText, ce_BadSweets, show exSub "BadText" "BadSweets" = false from by decide +kernel]; exact kit_sub xi_BadSweets et_BadSweets xs_BadText_BadSweets (fun h => by (have q := xs_BadText_BadSweets; rw [h] at q; rw [xs_BadSweets_BadSweets] at q; cases q))), (List.forall_mem_cons.mpr ⟨(by rw [ce_BadText, ce_BadRounds, show exSub "BadText" "BadRounds" = false from by decide +kernel]; exact kit_sub xi_BadRounds et_BadRounds xs_BadText_BadRounds (fun h => by (have q := xs_BadText_BadRounds; rw [h] at q; rw [xs_BadRounds_BadRounds] at q; cases q))), (List.forall_mem_cons.mpr ⟨(by rw [ce_BadText, ce_BadMost, show exSub "BadText" "BadMost" = false from by decide +kernel]; exact kit_sub xi_BadMost et_BadMost xs_BadText_BadMost (fun h => by (have q := xs_BadText_BadMost; rw [h] at q; rw [xs_BadMost_BadMost] at q; cases q))), (List.forall_mem_cons.mpr ⟨(by rw [ce_BadText, ce_BadRows, show exSub "BadText" "BadRows" = false from by decide +kernel]; exact kit_sub xi_BadRows et_BadRows xs_BadText_BadRows (fun h => by (have q := xs_BadText_BadRows; rw [h] at q; rw [xs_BadRows_BadRows] at q; cases q))), (List.forall_mem_cons.mpr ⟨(by rw [ce_BadText, ce_BadSeen, show exSub "BadText" "BadSeen" = false from by decide +kernel]; exact kit_sub xi_BadSeen et_BadSeen xs_BadText_BadSeen (fun h => by (have q := xs_BadText_BadSeen; rw [h] at q; rw [xs_BadSeen_BadSeen] at q; cases q))), (List.forall_mem_cons.mpr ⟨(by rw [ce_BadText, ce_TooMany, show exSub "BadText" "TooMany" = false from by decide +kernel]; exact kit_sub xi_TooMany et_TooMany xs_BadText_TooMany (fun h => by (have q := xs_BadText_TooMany; rw [h] at q; rw [xs_TooMany_TooMany] at q; cases q))), (List.forall_mem_cons.mpr ⟨(by rw [ce_BadText, ce_BadChild, show exSub "BadText" "BadChild" = false from by decide +kernel]; exact kit_sub xi_BadChild et_BadChild xs_BadText_BadChild (fun h => by (have q := xs_BadText_BadChild; rw [h] at q; rw [xs_BadChild_BadChild] at q; cases q))), (List.forall_mem_cons.mpr ⟨(by rw [ce_BadText, ce_BadGift, show exSub "BadText" "BadGift" = false from by decide +kernel]; exact kit_sub xi_BadGift et_BadGift xs_BadText_BadGift (fun h => by (have q := xs_BadText_BadGift; rw [h] at q; rw [xs_BadGift_BadGift] at q; cases q))), (List.forall_mem_cons.mpr ⟨(by rw [ce_BadText, show exSub "BadText" "BadText" = true from by decide +kernel]; exact kit_sub xi_BadText et_BadText xs_BadText_BadText (fun h => by rfl)), (List.forall_mem_cons.mpr ⟨(by rw [ce_BadText, ce_SweetError, show exSub "BadText" "SweetError" = true from by decide +kernel]; exact kit_sub xi_SweetError et_SweetError xs_BadText_SweetError (fun h => by rfl)), (fun _ h => nomatch h)⟩)⟩)⟩)⟩)⟩)⟩)⟩)⟩)⟩)⟩)⟩)⟩)⟩), (fun _ h => nomatch h)⟩)⟩)⟩)⟩)⟩)⟩)⟩)⟩)⟩)⟩)⟩)⟩),
    xv := (List.forall_mem_cons.mpr ⟨(by rw [ce_BadChildren]; exact kit_val esv_BadChildren), (List.forall_mem_cons.mpr ⟨(by rw [ce_BadParts]; exact kit_val esv_BadParts), (List.forall_mem_cons.mpr ⟨(by rw [ce_BadSteps]; exact kit_val esv_BadSteps), (List.forall_mem_cons.mpr ⟨(by rw [ce_BadSweets]; exact kit_val esv_BadSweets), (List.forall_mem_cons.mpr ⟨(by rw [ce_BadRounds]; exact kit_val esv_BadRounds), (List.forall_mem_cons.mpr ⟨(by rw [ce_BadMost]; exact kit_val esv_BadMost), (List.forall_mem_cons.mpr ⟨(by rw [ce_BadRows]; exact kit_val esv_BadRows), (List.forall_mem_cons.mpr ⟨(by rw [ce_BadSeen]; exact kit_val esv_BadSeen), (List.forall_mem_cons.mpr ⟨(by rw [ce_TooMany]; exact kit_val esv_TooMany), (List.forall_mem_cons.mpr ⟨(by rw [ce_BadChild]; exact kit_val esv_BadChild), (List.forall_mem_cons.mpr ⟨(by rw [ce_BadGift]; exact kit_val esv_BadGift), (List.forall_mem_cons.mpr ⟨(by rw [ce_BadText]; exact kit_val esv_BadText), (fun _ h => nomatch h)⟩)⟩)⟩)⟩)⟩)⟩)⟩)⟩)⟩)⟩)⟩)⟩),
    xg_index := (List.forall_mem_cons.mpr ⟨(by rw [ce_BadSteps]; exact ⟨⟨ega_BadSteps, egg_BadSteps, es_BadSteps, ehd_BadSteps⟩, enb_BadSteps⟩), (List.forall_mem_cons.mpr ⟨(by rw [ce_BadSweets]; exact ⟨⟨ega_BadSweets, egg_BadSweets, es_BadSweets, ehd_BadSweets⟩, enb_BadSweets⟩), (List.forall_mem_cons.mpr ⟨(by rw [ce_BadRows]; exact ⟨⟨ega_BadRows, egg_BadRows, es_BadRows, ehd_BadRows⟩, enb_BadRows⟩), (List.forall_mem_cons.mpr ⟨(by rw [ce_BadSeen]; exact ⟨⟨ega_BadSeen, egg_BadSeen, es_BadSeen, ehd_BadSeen⟩, enb_BadSeen⟩), (fun _ h => nomatch h)⟩)⟩)⟩)⟩),
    xg_word := (List.forall_mem_cons.mpr ⟨(by rw [ce_BadText]; exact ⟨⟨ega_BadText, egg_BadText, es_BadText, ehd_BadText⟩, enb_BadText⟩), (fun _ h => nomatch h)⟩),
    }
  have F_law_classes := fnd_mk (st := s_law_classes) l_law_classes c_law_classes k_law_classes
  have b_law_classes := F_law_classes.bindsN (ps := ["_law_error"]) fun _ _ _ _ _ _ us hl => match us, hl with | [_], _ => rfl
  have D_law_classes : Dn K mg "_law_classes" s_law_classes ["_law_error"] [] [] f_law_classes _ := ⟨F_law_classes, PySem.W.mg_of X GG a_law_classes, b_law_classes, b_law_classes, .nil⟩
  have F_law_below := fnd_mk (st := s_law_below) l_law_below c_law_below k_law_below
  have b_law_below := F_law_below.bindsN (ps := ["_law_d", "_law_size"]) fun _ _ _ _ _ _ us hl => match us, hl with | [_, _], _ => rfl
  have D_law_below : Dn K mg "_law_below" s_law_below ["_law_d", "_law_size"] [] [] f_law_below _ := ⟨F_law_below, PySem.W.mg_of X GG a_law_below, b_law_below, b_law_below, .nil⟩
  have F_law_pick := fnd_mk (st := s_law_pick) l_law_pick c_law_pick k_law_pick
  have b_law_pick := F_law_pick.bindsN (ps := ["_law_d", "_law_items"]) fun _ _ _ _ _ _ us hl => match us, hl with | [_, _], _ => rfl
  have D_law_pick : Dn K mg "_law_pick" s_law_pick ["_law_d", "_law_items"] [] [] f_law_pick _ := ⟨F_law_pick, PySem.W.mg_of X GG a_law_pick, b_law_pick, b_law_pick, .nil⟩
  have F_law_one := fnd_mk (st := s_law_one) l_law_one c_law_one k_law_one
  have b_law_one := F_law_one.bindsN (ps := ["_law_d"]) fun _ _ _ _ _ _ us hl => match us, hl with | [_], _ => rfl
  have D_law_one : Dn K mg "_law_one" s_law_one ["_law_d"] [] [] f_law_one _ := ⟨F_law_one, PySem.W.mg_of X GG a_law_one, b_law_one, b_law_one, .nil⟩
  have F_law_random := fnd_mk (st := s_law_random) l_law_random c_law_random k_law_random
  have b_law_random := F_law_random.bindsN (ps := ["_law_script", "_law_salt"]) fun _ _ _ _ _ _ us hl => match us, hl with | [_, _], _ => rfl
  have D_law_random : Dn K mg "_law_random" s_law_random ["_law_script", "_law_salt"] [] [] f_law_random _ := ⟨F_law_random, PySem.W.mg_of X GG a_law_random, b_law_random, b_law_random, .nil⟩
  have F_law := fnd_mk (st := s_law) l_law c_law k_law
  have b_law := F_law.bindsN (ps := ["_law_script"]) fun _ _ _ _ _ _ us hl => match us, hl with | [_], _ => rfl
  have D_law : Dn K mg "law" s_law ["_law_script"] [] [] fa _ := ⟨F_law, PySem.W.mg_of X GG a_law, b_law, b_law, .nil⟩
  refine ⟨_, fun s v => F_law.bindsA (ps := ["_law_script"]) (fun _ _ _ _ _ _ us hl => match us, hl with | [_], _ => rfl) s [v] rfl, fun base _ _ => ?_⟩
  have G_law_classes : FnOk P w K mg base (L2.CX P w) 3 f_law_classes _ ["_law_error"] (upSp ⟨K, 0, cl⟩ sp_law_classes) := ok_law_classes F_law_classes T
  have G_law_below : FnOk P w K mg base (L2.CX P w) 3 f_law_below _ ["_law_d", "_law_size"] (upSp ⟨K, 0, cl⟩ sp_law_below) := ok_law_below F_law_below T
  have G_law_pick : FnOk P w K mg base (L2.CX P w) 4 f_law_pick _ ["_law_d", "_law_items"] (upSp ⟨K, 0, cl⟩ sp_law_pick) := ok_law_pick F_law_pick T D_law_below G_law_below
  have G_law_one : FnOk P w K mg base (L2.CX P w) 5 f_law_one _ ["_law_d"] (upSp ⟨K, 0, cl⟩ sp_law_one) := ok_law_one F_law_one T D_law_below G_law_below D_law_pick G_law_pick
  have G_law_random : FnOk P w K mg base (L2.CX P w) 3 f_law_random _ ["_law_script", "_law_salt"] (upSp ⟨K, 0, cl⟩ sp_law_random) := ok_law_random F_law_random T
  have G_law : FnOk P w K mg base (L2.CX P w) 6 fa _ ["_law_script"] (upSp ⟨K, 0, cl⟩ sp_law) := ok_law F_law T D_law_classes G_law_classes D_law_one G_law_one D_law_random G_law_random
  exact G_law.imp (top_imp (C := ⟨K, 0, cl⟩) fun l X k hl hk => law_starts l X k hl hk)
end Lw
open PySem PySem.W PyProof.Rows in
set_option maxRecDepth 100000 in
set_option maxHeartbeats 0 in
theorem PySem.Challenge.cw_sweetsring_k19_errors_apart_holds : PySem.Challenge.rw_sweetsring_k19_errors_apart.Holds := by
  w_on; o_law; k_head; (case hw => w_witness2)
  k_fill
  refine PD.walkL (l := PySem.Challenge.rw_sweetsring_k19_errors_apart) (k := 6) (x := "_law_script") rfl rfl ⟨rfl, by decide, by decide⟩ (fun w h Y => PySem.W.kIn_of Y) ?F
  case F =>
    intro w mg fa h KX G hmg
    refine' Lw.all_mk KX G hmg ?a_law_classes ?l_law_classes ?c_law_classes ?k_law_classes ?a_law_below ?l_law_below ?c_law_below ?k_law_below ?a_law_pick ?l_law_pick ?c_law_pick ?k_law_pick ?a_law_one ?l_law_one ?c_law_one ?k_law_one ?a_law_random ?l_law_random ?c_law_random ?k_law_random ?a_law ?l_law ?c_law ?k_law ?z_ValueError ?z_abs ?z_int ?z_isinstance ?z_len ?z_range ?ea_SweetError ?es_SweetError ?et_SweetError ?ea_BadChild ?ek_BadChild ?es_BadChild ?et_BadChild ?eq_BadChild ?ea_BadChildren ?ek_BadChildren ?es_BadChildren ?et_BadChildren ?eq_BadChildren ?ea_BadGift ?ek_BadGift ?es_BadGift ?et_BadGift ?eq_BadGift ?ea_BadMost ?ek_BadMost ?es_BadMost ?et_BadMost ?eq_BadMost ?ea_BadParts ?ek_BadParts ?es_BadParts ?et_BadParts ?eq_BadParts ?ea_BadRounds ?ek_BadRounds ?es_BadRounds ?et_BadRounds ?eq_BadRounds ?ea_BadRows ?ek_BadRows ?es_BadRows ?et_BadRows ?a_i_BadRows ?l_i_BadRows ?c_i_BadRows ?k_i_BadRows ?ty_BadRows ?ex_BadRows ?esa_BadRows ?ega_BadRows ?egg_BadRows ?enb_BadRows ?ehd_BadRows ?ea_BadSeen ?ek_BadSeen ?es_BadSeen ?et_BadSeen ?a_i_BadSeen ?l_i_BadSeen ?c_i_BadSeen ?k_i_BadSeen ?ty_BadSeen ?ex_BadSeen ?esa_BadSeen ?ega_BadSeen ?egg_BadSeen ?enb_BadSeen ?ehd_BadSeen ?ea_BadSteps ?ek_BadSteps ?es_BadSteps ?et_BadSteps ?a_i_BadSteps ?l_i_BadSteps ?c_i_BadSteps ?k_i_BadSteps ?ty_BadSteps ?ex_BadSteps ?esa_BadSteps ?ega_BadSteps ?egg_BadSteps ?enb_BadSteps ?ehd_BadSteps ?ea_BadSweets ?ek_BadSweets ?es_BadSweets ?et_BadSweets ?a_i_BadSweets ?l_i_BadSweets ?c_i_BadSweets ?k_i_BadSweets ?ty_BadSweets ?ex_BadSweets ?esa_BadSweets ?ega_BadSweets ?egg_BadSweets ?enb_BadSweets ?ehd_BadSweets ?ea_BadText ?ek_BadText ?es_BadText ?et_BadText ?a_i_BadText ?l_i_BadText ?c_i_BadText ?k_i_BadText ?ty_BadText ?ex_BadText ?esa_BadText ?ega_BadText ?egg_BadText ?enb_BadText ?ehd_BadText ?ea_TooMany ?ek_TooMany ?es_TooMany ?et_TooMany ?eq_TooMany ?xi_BadChildren ?xs_BadChildren_BadChildren ?xs_BadParts_BadChildren ?xs_BadSteps_BadChildren ?xs_BadSweets_BadChildren ?xs_BadRounds_BadChildren ?xs_BadMost_BadChildren ?xs_BadRows_BadChildren ?xs_BadSeen_BadChildren ?xs_TooMany_BadChildren ?xs_BadChild_BadChildren ?xs_BadGift_BadChildren ?xs_BadText_BadChildren ?xi_BadParts ?xs_BadChildren_BadParts ?xs_BadParts_BadParts ?xs_BadSteps_BadParts ?xs_BadSweets_BadParts ?xs_BadRounds_BadParts ?xs_BadMost_BadParts ?xs_BadRows_BadParts ?xs_BadSeen_BadParts ?xs_TooMany_BadParts ?xs_BadChild_BadParts ?xs_BadGift_BadParts ?xs_BadText_BadParts ?xi_BadSteps ?xs_BadChildren_BadSteps ?xs_BadParts_BadSteps ?xs_BadSteps_BadSteps ?xs_BadSweets_BadSteps ?xs_BadRounds_BadSteps ?xs_BadMost_BadSteps ?xs_BadRows_BadSteps ?xs_BadSeen_BadSteps ?xs_TooMany_BadSteps ?xs_BadChild_BadSteps ?xs_BadGift_BadSteps ?xs_BadText_BadSteps ?xi_BadSweets ?xs_BadChildren_BadSweets ?xs_BadParts_BadSweets ?xs_BadSteps_BadSweets ?xs_BadSweets_BadSweets ?xs_BadRounds_BadSweets ?xs_BadMost_BadSweets ?xs_BadRows_BadSweets ?xs_BadSeen_BadSweets ?xs_TooMany_BadSweets ?xs_BadChild_BadSweets ?xs_BadGift_BadSweets ?xs_BadText_BadSweets ?xi_BadRounds ?xs_BadChildren_BadRounds ?xs_BadParts_BadRounds ?xs_BadSteps_BadRounds ?xs_BadSweets_BadRounds ?xs_BadRounds_BadRounds ?xs_BadMost_BadRounds ?xs_BadRows_BadRounds ?xs_BadSeen_BadRounds ?xs_TooMany_BadRounds ?xs_BadChild_BadRounds ?xs_BadGift_BadRounds ?xs_BadText_BadRounds ?xi_BadMost ?xs_BadChildren_BadMost ?xs_BadParts_BadMost ?xs_BadSteps_BadMost ?xs_BadSweets_BadMost ?xs_BadRounds_BadMost ?xs_BadMost_BadMost ?xs_BadRows_BadMost ?xs_BadSeen_BadMost ?xs_TooMany_BadMost ?xs_BadChild_BadMost ?xs_BadGift_BadMost ?xs_BadText_BadMost ?xi_BadRows ?xs_BadChildren_BadRows ?xs_BadParts_BadRows ?xs_BadSteps_BadRows ?xs_BadSweets_BadRows ?xs_BadRounds_BadRows ?xs_BadMost_BadRows ?xs_BadRows_BadRows ?xs_BadSeen_BadRows ?xs_TooMany_BadRows ?xs_BadChild_BadRows ?xs_BadGift_BadRows ?xs_BadText_BadRows ?xi_BadSeen ?xs_BadChildren_BadSeen ?xs_BadParts_BadSeen ?xs_BadSteps_BadSeen ?xs_BadSweets_BadSeen ?xs_BadRounds_BadSeen ?xs_BadMost_BadSeen ?xs_BadRows_BadSeen ?xs_BadSeen_BadSeen ?xs_TooMany_BadSeen ?xs_BadChild_BadSeen ?xs_BadGift_BadSeen ?xs_BadText_BadSeen ?xi_TooMany ?xs_BadChildren_TooMany ?xs_BadParts_TooMany ?xs_BadSteps_TooMany ?xs_BadSweets_TooMany ?xs_BadRounds_TooMany ?xs_BadMost_TooMany ?xs_BadRows_TooMany ?xs_BadSeen_TooMany ?xs_TooMany_TooMany ?xs_BadChild_TooMany ?xs_BadGift_TooMany ?xs_BadText_TooMany ?xi_BadChild ?xs_BadChildren_BadChild ?xs_BadParts_BadChild ?xs_BadSteps_BadChild ?xs_BadSweets_BadChild ?xs_BadRounds_BadChild ?xs_BadMost_BadChild ?xs_BadRows_BadChild ?xs_BadSeen_BadChild ?xs_TooMany_BadChild ?xs_BadChild_BadChild ?xs_BadGift_BadChild ?xs_BadText_BadChild ?xi_BadGift ?xs_BadChildren_BadGift ?xs_BadParts_BadGift ?xs_BadSteps_BadGift ?xs_BadSweets_BadGift ?xs_BadRounds_BadGift ?xs_BadMost_BadGift ?xs_BadRows_BadGift ?xs_BadSeen_BadGift ?xs_TooMany_BadGift ?xs_BadChild_BadGift ?xs_BadGift_BadGift ?xs_BadText_BadGift ?xi_BadText ?xs_BadChildren_BadText ?xs_BadParts_BadText ?xs_BadSteps_BadText ?xs_BadSweets_BadText ?xs_BadRounds_BadText ?xs_BadMost_BadText ?xs_BadRows_BadText ?xs_BadSeen_BadText ?xs_TooMany_BadText ?xs_BadChild_BadText ?xs_BadGift_BadText ?xs_BadText_BadText ?xi_SweetError ?xs_BadChildren_SweetError ?xs_BadParts_SweetError ?xs_BadSteps_SweetError ?xs_BadSweets_SweetError ?xs_BadRounds_SweetError ?xs_BadMost_SweetError ?xs_BadRows_SweetError ?xs_BadSeen_SweetError ?xs_TooMany_SweetError ?xs_BadChild_SweetError ?xs_BadGift_SweetError ?xs_BadText_SweetError ?xn ?xt ?ega_BadChildren ?egg_BadChildren ?ehd_BadChildren ?eca_BadChildren ?emo_BadChildren ?esv_BadChildren ?ega_BadParts ?egg_BadParts ?ehd_BadParts ?eca_BadParts ?emo_BadParts ?esv_BadParts ?eca_BadSteps ?emo_BadSteps ?esv_BadSteps ?eca_BadSweets ?emo_BadSweets ?esv_BadSweets ?ega_BadRounds ?egg_BadRounds ?ehd_BadRounds ?eca_BadRounds ?emo_BadRounds ?esv_BadRounds ?ega_BadMost ?egg_BadMost ?ehd_BadMost ?eca_BadMost ?emo_BadMost ?esv_BadMost ?eca_BadRows ?emo_BadRows ?esv_BadRows ?eca_BadSeen ?emo_BadSeen ?esv_BadSeen ?ega_TooMany ?egg_TooMany ?ehd_TooMany ?eca_TooMany ?emo_TooMany ?esv_TooMany ?ega_BadChild ?egg_BadChild ?ehd_BadChild ?eca_BadChild ?emo_BadChild ?esv_BadChild ?ega_BadGift ?egg_BadGift ?ehd_BadGift ?eca_BadGift ?emo_BadGift ?esv_BadGift ?eca_BadText ?emo_BadText ?esv_BadText
    (case a_law_classes => k_is)
    (case l_law_classes => k_is)
    (case c_law_classes => k_is)
    (case k_law_classes => k_is)
    (case a_law_below => k_is)
    (case l_law_below => k_is)
    (case c_law_below => k_is)
    (case k_law_below => k_is)
    (case a_law_pick => k_is)
    (case l_law_pick => k_is)
    (case c_law_pick => k_is)
    (case k_law_pick => k_is)
    (case a_law_one => k_is)
    (case l_law_one => k_is)
    (case c_law_one => k_is)
    (case k_law_one => k_is)
    (case a_law_random => k_is)
    (case l_law_random => k_is)
    (case c_law_random => k_is)
    (case k_law_random => k_is)
    (case a_law => k_is)
    (case l_law => k_is)
    (case c_law => k_is)
    (case k_law => k_is)
    (case z_ValueError => k_is)
    (case z_abs => k_is)
    (case z_int => k_is)
    (case z_isinstance => k_is)
    (case z_len => k_is)
    (case z_range => k_is)
    (case ea_SweetError => k_is)
    (case es_SweetError => k_is)
    (case et_SweetError => k_is)
    (case ea_BadChild => k_is)
    (case ek_BadChild => k_is)
    (case es_BadChild => k_is)
    (case et_BadChild => k_is)
    (case eq_BadChild => k_exc)
    (case ea_BadChildren => k_is)
    (case ek_BadChildren => k_is)
    (case es_BadChildren => k_is)
    (case et_BadChildren => k_is)
    (case eq_BadChildren => k_exc)
    (case ea_BadGift => k_is)
    (case ek_BadGift => k_is)
    (case es_BadGift => k_is)
    (case et_BadGift => k_is)
    (case eq_BadGift => k_exc)
    (case ea_BadMost => k_is)
    (case ek_BadMost => k_is)
    (case es_BadMost => k_is)
    (case et_BadMost => k_is)
    (case eq_BadMost => k_exc)
    (case ea_BadParts => k_is)
    (case ek_BadParts => k_is)
    (case es_BadParts => k_is)
    (case et_BadParts => k_is)
    (case eq_BadParts => k_exc)
    (case ea_BadRounds => k_is)
    (case ek_BadRounds => k_is)
    (case es_BadRounds => k_is)
    (case et_BadRounds => k_is)
    (case eq_BadRounds => k_exc)
    (case ea_BadRows => k_is)
    (case ek_BadRows => k_is)
    (case es_BadRows => k_is)
    (case et_BadRows => k_is)
    (case a_i_BadRows => k_is)
    (case l_i_BadRows => k_is)
    (case c_i_BadRows => k_is)
    (case k_i_BadRows => k_is)
    (case ty_BadRows => k_is)
    (case ex_BadRows => k_is)
    (case esa_BadRows => k_is)
    (case ega_BadRows => k_is)
    (case egg_BadRows => k_is)
    (case enb_BadRows => k_is)
    (case ehd_BadRows => k_is)
    (case ea_BadSeen => k_is)
    (case ek_BadSeen => k_is)
    (case es_BadSeen => k_is)
    (case et_BadSeen => k_is)
    (case a_i_BadSeen => k_is)
    (case l_i_BadSeen => k_is)
    (case c_i_BadSeen => k_is)
    (case k_i_BadSeen => k_is)
    (case ty_BadSeen => k_is)
    (case ex_BadSeen => k_is)
    (case esa_BadSeen => k_is)
    (case ega_BadSeen => k_is)
    (case egg_BadSeen => k_is)
    (case enb_BadSeen => k_is)
    (case ehd_BadSeen => k_is)
    (case ea_BadSteps => k_is)
    (case ek_BadSteps => k_is)
    (case es_BadSteps => k_is)
    (case et_BadSteps => k_is)
    (case a_i_BadSteps => k_is)
    (case l_i_BadSteps => k_is)
    (case c_i_BadSteps => k_is)
    (case k_i_BadSteps => k_is)
    (case ty_BadSteps => k_is)
    (case ex_BadSteps => k_is)
    (case esa_BadSteps => k_is)
    (case ega_BadSteps => k_is)
    (case egg_BadSteps => k_is)
    (case enb_BadSteps => k_is)
    (case ehd_BadSteps => k_is)
    (case ea_BadSweets => k_is)
    (case ek_BadSweets => k_is)
    (case es_BadSweets => k_is)
    (case et_BadSweets => k_is)
    (case a_i_BadSweets => k_is)
    (case l_i_BadSweets => k_is)
    (case c_i_BadSweets => k_is)
    (case k_i_BadSweets => k_is)
    (case ty_BadSweets => k_is)
    (case ex_BadSweets => k_is)
    (case esa_BadSweets => k_is)
    (case ega_BadSweets => k_is)
    (case egg_BadSweets => k_is)
    (case enb_BadSweets => k_is)
    (case ehd_BadSweets => k_is)
    (case ea_BadText => k_is)
    (case ek_BadText => k_is)
    (case es_BadText => k_is)
    (case et_BadText => k_is)
    (case a_i_BadText => k_is)
    (case l_i_BadText => k_is)
    (case c_i_BadText => k_is)
    (case k_i_BadText => k_is)
    (case ty_BadText => k_is)
    (case ex_BadText => k_is)
    (case esa_BadText => k_is)
    (case ega_BadText => k_is)
    (case egg_BadText => k_is)
    (case enb_BadText => k_is)
    (case ehd_BadText => k_is)
    (case ea_TooMany => k_is)
    (case ek_TooMany => k_is)
    (case es_TooMany => k_is)
    (case et_TooMany => k_is)
    (case eq_TooMany => k_exc)
    (case xi_BadChildren => k_is)
    (case xs_BadChildren_BadChildren => k_is)
    (case xs_BadParts_BadChildren => k_is)
    (case xs_BadSteps_BadChildren => k_is)
    (case xs_BadSweets_BadChildren => k_is)
    (case xs_BadRounds_BadChildren => k_is)
    (case xs_BadMost_BadChildren => k_is)
    (case xs_BadRows_BadChildren => k_is)
    (case xs_BadSeen_BadChildren => k_is)
    (case xs_TooMany_BadChildren => k_is)
    (case xs_BadChild_BadChildren => k_is)
    (case xs_BadGift_BadChildren => k_is)
    (case xs_BadText_BadChildren => k_is)
    (case xi_BadParts => k_is)
    (case xs_BadChildren_BadParts => k_is)
    (case xs_BadParts_BadParts => k_is)
    (case xs_BadSteps_BadParts => k_is)
    (case xs_BadSweets_BadParts => k_is)
    (case xs_BadRounds_BadParts => k_is)
    (case xs_BadMost_BadParts => k_is)
    (case xs_BadRows_BadParts => k_is)
    (case xs_BadSeen_BadParts => k_is)
    (case xs_TooMany_BadParts => k_is)
    (case xs_BadChild_BadParts => k_is)
    (case xs_BadGift_BadParts => k_is)
    (case xs_BadText_BadParts => k_is)
    (case xi_BadSteps => k_is)
    (case xs_BadChildren_BadSteps => k_is)
    (case xs_BadParts_BadSteps => k_is)
    (case xs_BadSteps_BadSteps => k_is)
    (case xs_BadSweets_BadSteps => k_is)
    (case xs_BadRounds_BadSteps => k_is)
    (case xs_BadMost_BadSteps => k_is)
    (case xs_BadRows_BadSteps => k_is)
    (case xs_BadSeen_BadSteps => k_is)
    (case xs_TooMany_BadSteps => k_is)
    (case xs_BadChild_BadSteps => k_is)
    (case xs_BadGift_BadSteps => k_is)
    (case xs_BadText_BadSteps => k_is)
    (case xi_BadSweets => k_is)
    (case xs_BadChildren_BadSweets => k_is)
    (case xs_BadParts_BadSweets => k_is)
    (case xs_BadSteps_BadSweets => k_is)
    (case xs_BadSweets_BadSweets => k_is)
    (case xs_BadRounds_BadSweets => k_is)
    (case xs_BadMost_BadSweets => k_is)
    (case xs_BadRows_BadSweets => k_is)
    (case xs_BadSeen_BadSweets => k_is)
    (case xs_TooMany_BadSweets => k_is)
    (case xs_BadChild_BadSweets => k_is)
    (case xs_BadGift_BadSweets => k_is)
    (case xs_BadText_BadSweets => k_is)
    (case xi_BadRounds => k_is)
    (case xs_BadChildren_BadRounds => k_is)
    (case xs_BadParts_BadRounds => k_is)
    (case xs_BadSteps_BadRounds => k_is)
    (case xs_BadSweets_BadRounds => k_is)
    (case xs_BadRounds_BadRounds => k_is)
    (case xs_BadMost_BadRounds => k_is)
    (case xs_BadRows_BadRounds => k_is)
    (case xs_BadSeen_BadRounds => k_is)
    (case xs_TooMany_BadRounds => k_is)
    (case xs_BadChild_BadRounds => k_is)
    (case xs_BadGift_BadRounds => k_is)
    (case xs_BadText_BadRounds => k_is)
    (case xi_BadMost => k_is)
    (case xs_BadChildren_BadMost => k_is)
    (case xs_BadParts_BadMost => k_is)
    (case xs_BadSteps_BadMost => k_is)
    (case xs_BadSweets_BadMost => k_is)
    (case xs_BadRounds_BadMost => k_is)
    (case xs_BadMost_BadMost => k_is)
    (case xs_BadRows_BadMost => k_is)
    (case xs_BadSeen_BadMost => k_is)
    (case xs_TooMany_BadMost => k_is)
    (case xs_BadChild_BadMost => k_is)
    (case xs_BadGift_BadMost => k_is)
    (case xs_BadText_BadMost => k_is)
    (case xi_BadRows => k_is)
    (case xs_BadChildren_BadRows => k_is)
    (case xs_BadParts_BadRows => k_is)
    (case xs_BadSteps_BadRows => k_is)
    (case xs_BadSweets_BadRows => k_is)
    (case xs_BadRounds_BadRows => k_is)
    (case xs_BadMost_BadRows => k_is)
    (case xs_BadRows_BadRows => k_is)
    (case xs_BadSeen_BadRows => k_is)
    (case xs_TooMany_BadRows => k_is)
    (case xs_BadChild_BadRows => k_is)
    (case xs_BadGift_BadRows => k_is)
    (case xs_BadText_BadRows => k_is)
    (case xi_BadSeen => k_is)
    (case xs_BadChildren_BadSeen => k_is)
    (case xs_BadParts_BadSeen => k_is)
    (case xs_BadSteps_BadSeen => k_is)
    (case xs_BadSweets_BadSeen => k_is)
    (case xs_BadRounds_BadSeen => k_is)
    (case xs_BadMost_BadSeen => k_is)
    (case xs_BadRows_BadSeen => k_is)
    (case xs_BadSeen_BadSeen => k_is)
    (case xs_TooMany_BadSeen => k_is)
    (case xs_BadChild_BadSeen => k_is)
    (case xs_BadGift_BadSeen => k_is)
    (case xs_BadText_BadSeen => k_is)
    (case xi_TooMany => k_is)
    (case xs_BadChildren_TooMany => k_is)
    (case xs_BadParts_TooMany => k_is)
    (case xs_BadSteps_TooMany => k_is)
    (case xs_BadSweets_TooMany => k_is)
    (case xs_BadRounds_TooMany => k_is)
    (case xs_BadMost_TooMany => k_is)
    (case xs_BadRows_TooMany => k_is)
    (case xs_BadSeen_TooMany => k_is)
    (case xs_TooMany_TooMany => k_is)
    (case xs_BadChild_TooMany => k_is)
    (case xs_BadGift_TooMany => k_is)
    (case xs_BadText_TooMany => k_is)
    (case xi_BadChild => k_is)
    (case xs_BadChildren_BadChild => k_is)
    (case xs_BadParts_BadChild => k_is)
    (case xs_BadSteps_BadChild => k_is)
    (case xs_BadSweets_BadChild => k_is)
    (case xs_BadRounds_BadChild => k_is)
    (case xs_BadMost_BadChild => k_is)
    (case xs_BadRows_BadChild => k_is)
    (case xs_BadSeen_BadChild => k_is)
    (case xs_TooMany_BadChild => k_is)
    (case xs_BadChild_BadChild => k_is)
    (case xs_BadGift_BadChild => k_is)
    (case xs_BadText_BadChild => k_is)
    (case xi_BadGift => k_is)
    (case xs_BadChildren_BadGift => k_is)
    (case xs_BadParts_BadGift => k_is)
    (case xs_BadSteps_BadGift => k_is)
    (case xs_BadSweets_BadGift => k_is)
    (case xs_BadRounds_BadGift => k_is)
    (case xs_BadMost_BadGift => k_is)
    (case xs_BadRows_BadGift => k_is)
    (case xs_BadSeen_BadGift => k_is)
    (case xs_TooMany_BadGift => k_is)
    (case xs_BadChild_BadGift => k_is)
    (case xs_BadGift_BadGift => k_is)
    (case xs_BadText_BadGift => k_is)
    (case xi_BadText => k_is)
    (case xs_BadChildren_BadText => k_is)
    (case xs_BadParts_BadText => k_is)
    (case xs_BadSteps_BadText => k_is)
    (case xs_BadSweets_BadText => k_is)
    (case xs_BadRounds_BadText => k_is)
    (case xs_BadMost_BadText => k_is)
    (case xs_BadRows_BadText => k_is)
    (case xs_BadSeen_BadText => k_is)
    (case xs_TooMany_BadText => k_is)
    (case xs_BadChild_BadText => k_is)
    (case xs_BadGift_BadText => k_is)
    (case xs_BadText_BadText => k_is)
    (case xi_SweetError => k_is)
    (case xs_BadChildren_SweetError => k_is)
    (case xs_BadParts_SweetError => k_is)
    (case xs_BadSteps_SweetError => k_is)
    (case xs_BadSweets_SweetError => k_is)
    (case xs_BadRounds_SweetError => k_is)
    (case xs_BadMost_SweetError => k_is)
    (case xs_BadRows_SweetError => k_is)
    (case xs_BadSeen_SweetError => k_is)
    (case xs_TooMany_SweetError => k_is)
    (case xs_BadChild_SweetError => k_is)
    (case xs_BadGift_SweetError => k_is)
    (case xs_BadText_SweetError => k_is)
    (case xn => k_is)
    (case xt => k_is)
    (case ega_BadChildren => k_is)
    (case egg_BadChildren => k_is)
    (case ehd_BadChildren => k_is)
    (case eca_BadChildren => k_is)
    (case emo_BadChildren => k_is)
    (case esv_BadChildren => k_is)
    (case ega_BadParts => k_is)
    (case egg_BadParts => k_is)
    (case ehd_BadParts => k_is)
    (case eca_BadParts => k_is)
    (case emo_BadParts => k_is)
    (case esv_BadParts => k_is)
    (case eca_BadSteps => k_is)
    (case emo_BadSteps => k_is)
    (case esv_BadSteps => k_is)
    (case eca_BadSweets => k_is)
    (case emo_BadSweets => k_is)
    (case esv_BadSweets => k_is)
    (case ega_BadRounds => k_is)
    (case egg_BadRounds => k_is)
    (case ehd_BadRounds => k_is)
    (case eca_BadRounds => k_is)
    (case emo_BadRounds => k_is)
    (case esv_BadRounds => k_is)
    (case ega_BadMost => k_is)
    (case egg_BadMost => k_is)
    (case ehd_BadMost => k_is)
    (case eca_BadMost => k_is)
    (case emo_BadMost => k_is)
    (case esv_BadMost => k_is)
    (case eca_BadRows => k_is)
    (case emo_BadRows => k_is)
    (case esv_BadRows => k_is)
    (case eca_BadSeen => k_is)
    (case emo_BadSeen => k_is)
    (case esv_BadSeen => k_is)
    (case ega_TooMany => k_is)
    (case egg_TooMany => k_is)
    (case ehd_TooMany => k_is)
    (case eca_TooMany => k_is)
    (case emo_TooMany => k_is)
    (case esv_TooMany => k_is)
    (case ega_BadChild => k_is)
    (case egg_BadChild => k_is)
    (case ehd_BadChild => k_is)
    (case eca_BadChild => k_is)
    (case emo_BadChild => k_is)
    (case esv_BadChild => k_is)
    (case ega_BadGift => k_is)
    (case egg_BadGift => k_is)
    (case ehd_BadGift => k_is)
    (case eca_BadGift => k_is)
    (case emo_BadGift => k_is)
    (case esv_BadGift => k_is)
    (case eca_BadText => k_is)
    (case emo_BadText => k_is)
    (case esv_BadText => k_is)

