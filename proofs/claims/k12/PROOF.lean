import PyProof.Rows.All
import PySem.Challenge.RW_sweetsring_k12_whole_starts
import Wide.All
import OpenK.AllK
import Wide.FinOn
import HandS.ForMost
import HandS.Walk
import HandS.Wide
import HandS.Property
import HandS.Star
import HandS.IsInst
import HandS.ForExc
import HandS.TupAny
import HandS.TupMul
import HandS.CallSlots
import HandS.Small
import HandS.RaiseMore
import HandS.Style
import HandS.Conv
import KE.GoesEnum
import HandS.ForSpec
import HandS.Defaults
import HandS.TryMany
import HandS.TupSets
import HandS.OwnEq
import HandS.SetFor
import HandS.Dict
import HandS.More
import HandS.SortInts
import HandS.Strs
import HandS.Deep
import KE.DataFind
set_option Elab.async false
set_option autoImplicit false
set_option linter.all false
set_option maxRecDepth 100000
set_option maxHeartbeats 4000000
/-! PD: readings without a heap, over data. -/
namespace PD
open PySem PySem.Spec L2

inductive D where
  | non | bl (b : Bool) | int (i : Int) | str (s : Str)
  | lst (xs : List D) | tup (xs : List D)
  | gm (n s : Int) (ws : List Int)
  | dct | ptr (k : Nat)
  | scr (l : List Int)
  | ty (n : String) | gcl
  | exc (c f : Str) (y : D) | exn (c : Str) | ecl (c : Str)

inductive Cell where
  | dead | lst (xs : List D) | ins (C : Addr) (fs : List (Str × D)) | rng
  | dic (t : Bool) (kvs : List (List Int × Int))

abbrev MS := List Cell
abbrev En := List (Option D)

/-- what is fixed: the written part, the class Game, the error classes -/
structure Cn where
  K : PySem.W.Frag
  G : Addr
  cl : Str → Addr

def iL (l : List Int) : List D := l.map D.int

/-- an exception object: its class, its dict -/
def exV (a C : Addr) (d : Option Addr) : HO := .ext fun h => ∃ (oe : Obj) (vs : Array Value), h.get? a = some oe ∧ Zc (.ref C) d oe ∧ oe.data = .fields vs
mutual
inductive Rep (C : Cn) (th : List Addr) (F : Hp) : V → D → Prop
  | non : Rep C th F .non .non
  | bl (b : Bool) : Rep C th F (.bl b) (.bl b)
  | int (i : Int) : Rep C th F (.int i) (.int i)
  | str (x : Str) : Rep C th F (.str x) (.str x)
  | lst {a : Addr} {xs : List V} {ds : List D} : F a = some (.lst xs) → RepL C th F xs ds → Rep C th F (.ref a) (.lst ds)
  | tup {a : Addr} {xs : List V} {ds : List D} : F a = some (.tup xs) → RepL C th F xs ds → Rep C th F (.ref a) (.tup ds)
  | gm {a dx t : Addr} {n s : Int} {ws : List Int} : F a = some (.ins C.G dx [("size", .int n), ("share", .int s), ("ways", .ref t)]) → F t = some (.tup (ws.map V.int)) → Rep C th F (.ref a) (.gm n s ws)
  | scr {a : Addr} {l : List Int} : SqL C.K F a (l.map V.int) → Rep C th F (.ref a) (.scr l)
  | dct {a : Addr} : F a = some (.dK []) → Rep C th F (.ref a) .dct
  | ptr {a : Addr} {k : Nat} : th[k]? = some a → Rep C th F (.ref a) (.ptr k)
  | ty (n : String) : Rep C th F (.ty n) (.ty n)
  | gcl : Rep C th F (.ref C.G) .gcl
  | exc {a d : Addr} {v : V} {c f : Str} {y : D} : F a = some (exV a (C.cl c) (some d)) → F d = some (.xd [(f, v)]) → Rep C th F v y → Rep C th F (.ref a) (.exc c f y)
  | exn {a : Addr} {c : Str} : F a = some (exV a (C.cl c) none) → Rep C th F (.ref a) (.exn c)
  | ecl (c : Str) : Rep C th F (.ref (C.cl c)) (.ecl c)
inductive RepL (C : Cn) (th : List Addr) (F : Hp) : List V → List D → Prop
  | nil : RepL C th F [] []
  | cons {v : V} {vs : List V} {d : D} {ds : List D} : Rep C th F v d → RepL C th F vs ds → RepL C th F (v :: vs) (d :: ds)
end

abbrev Ex (H H' : Hp) : Prop := ∀ a o, H a = some o → H' a = some o
theorem Ex.rfl {H : Hp} : Ex H H := fun _ _ h => h
theorem Ex.tr {H H1 H2 : Hp} (a : Ex H H1) (b : Ex H1 H2) : Ex H H2 := fun x o h => b x o (a x o h)
theorem Ex.nw {H : Hp} {p : Addr} {o : HO} (h : H p = none) : Ex H (upd H p o) := fun a u e => by
  rw [upd_ne (ne_of_none e h)]
  exact e
theorem Ex.up {F H : Hp} {p : Addr} {o : HO} (e : Ex F H) : Ex (upd F p o) (upd H p o) := fun a u h => by
  by_cases q : a = p
  · subst q; rw [upd_same] at h ⊢; exact h
  · rw [upd_ne q] at h ⊢; exact e a u h
/-- F knows nothing of p: p may change -/
theorem Ex.mt {F H : Hp} {p : Addr} {o : HO} (e : Ex F H) (h : F p = none) : Ex F (upd H p o) := fun a u ha => by
  rw [upd_ne (ne_of_none ha h)]
  exact e a u ha
theorem Ex.fr {H H' : Hp} {p : Addr} (e : Ex H H') (h : H' p = none) : H p = none := by
  cases h1 : H p with
  | none => rfl
  | some o => rw [e p o h1] at h; cases h
theorem Ex.rd {H H' : Hp} {a : Addr} {u : HO} (e : Ex H H') (h : Rd H a u) : Rd H' a u := by
  rcases h with h | ⟨o, h⟩
  · exact .inl (e a _ h)
  · exact .inr ⟨o, e a _ h⟩
theorem Ex.sl {K : PySem.W.Frag} {H H' : Hp} {a : Addr} {xs : List V} (e : Ex H H') (h : SqL K H a xs) : SqL K H' a xs := h.elim (fun h => .inl (e.rd h)) .inr
theorem Ex.st {K : PySem.W.Frag} {H H' : Hp} {a : Addr} {xs : List V} (e : Ex H H') (h : SqT K H a xs) : SqT K H' a xs := h.elim (fun h => .inl (e.rd h)) .inr

/-- the later heap and cells know all that the earlier ones knew -/
structure Le (th : List Addr) (F : Hp) (th' : List Addr) (F' : Hp) : Prop where
  ex : Ex F F'
  pre : ∀ (k : Nat) (a : Addr), th[k]? = some a → th'[k]? = some a
theorem Le.rfl {th : List Addr} {F : Hp} : Le th F th F := ⟨Ex.rfl, fun _ _ h => h⟩
theorem Le.tr {th th1 th2 : List Addr} {F F1 F2 : Hp} (a : Le th F th1 F1) (b : Le th1 F1 th2 F2) : Le th F th2 F2 := ⟨a.ex.tr b.ex, fun k x h => b.pre k x (a.pre k x h)⟩
theorem Le.nw {th : List Addr} {F : Hp} {p : Addr} {o : HO} (h : F p = none) : Le th F th (upd F p o) := ⟨Ex.nw h, fun _ _ h => h⟩

mutual
theorem Rep.mono {C : Cn} {th th' : List Addr} {F F' : Hp} (l : Le th F th' F') : ∀ {v : V} {d : D}, Rep C th F v d → Rep C th' F' v d
  | _, _, .non => .non
  | _, _, .bl b => .bl b
  | _, _, .int i => .int i
  | _, _, .str x => .str x
  | _, _, .lst h r => .lst (l.ex _ _ h) (RepL.mono l r)
  | _, _, .tup h r => .tup (l.ex _ _ h) (RepL.mono l r)
  | _, _, .gm h r => .gm (l.ex _ _ h) (l.ex _ _ r)
  | _, _, .scr h => .scr (l.ex.sl h)
  | _, _, .dct h => .dct (l.ex _ _ h)
  | _, _, .ptr h => .ptr (l.pre _ _ h)
  | _, _, .ty n => .ty n
  | _, _, .gcl => .gcl
  | _, _, .exc h g r => .exc (l.ex _ _ h) (l.ex _ _ g) (Rep.mono l r)
  | _, _, .exn h => .exn (l.ex _ _ h)
  | _, _, .ecl c => .ecl c
theorem RepL.mono {C : Cn} {th th' : List Addr} {F F' : Hp} (l : Le th F th' F') : ∀ {vs : List V} {ds : List D}, RepL C th F vs ds → RepL C th' F' vs ds
  | _, _, .nil => .nil
  | _, _, .cons h r => .cons (Rep.mono l h) (RepL.mono l r)
end
section
variable {C : Cn} {th th' : List Addr} {F F' H : Hp}
theorem RepL.len : ∀ {vs : List V} {ds : List D}, RepL C th F vs ds → vs.length = ds.length
  | _, _, .nil => rfl
  | _, _, .cons _ r => by rw [List.length_cons, List.length_cons, RepL.len r]
theorem RepL.get : ∀ {vs : List V} {ds : List D} {i : Nat} {d : D}, RepL C th F vs ds → ds[i]? = some d → ∃ v, vs[i]? = some v ∧ Rep C th F v d
  | _, _, _, _, .nil, e => by simp at e
  | _, _, 0, _, .cons r _, e => by simp at e; subst e; exact ⟨_, rfl, r⟩
  | _, _, i + 1, d, .cons _ t, e => by
    obtain ⟨v, h1, h2⟩ := RepL.get (i := i) (d := d) t (by simpa using e)
    exact ⟨v, by simpa using h1, h2⟩
theorem RepL.getv : ∀ {vs : List V} {ds : List D} {i : Nat} {v : V}, RepL C th F vs ds → vs[i]? = some v → ∃ d, ds[i]? = some d ∧ Rep C th F v d
  | _, _, _, _, .nil, e => by simp at e
  | _, _, 0, _, .cons r _, e => by simp at e; subst e; exact ⟨_, rfl, r⟩
  | _, _, i + 1, v, .cons _ t, e => by
    obtain ⟨d, h1, h2⟩ := RepL.getv (i := i) (v := v) t (by simpa using e)
    exact ⟨d, by simpa using h1, h2⟩
theorem RepL.app : ∀ {vs ws : List V} {ds es : List D}, RepL C th F vs ds → RepL C th F ws es → RepL C th F (vs ++ ws) (ds ++ es)
  | _, _, _, _, .nil, h => h
  | _, _, _, _, .cons h r, q => .cons h (r.app q)
theorem RepL.one {v : V} {d : D} (h : Rep C th F v d) : RepL C th F [v] [d] := .cons h .nil
theorem RepL.set : ∀ {vs : List V} {ds : List D} (i : Nat) {v : V} {d : D}, RepL C th F vs ds → Rep C th F v d → RepL C th F (vs.set i v) (ds.set i d)
  | _, _, _, _, _, .nil, _ => .nil
  | _, _, 0, _, _, .cons _ t, r => .cons r t
  | _, _, i + 1, _, _, .cons q t, r => .cons q (t.set i r)
theorem RepL.take : ∀ {vs : List V} {ds : List D} (n : Nat), RepL C th F vs ds → RepL C th F (vs.take n) (ds.take n)
  | _, _, 0, _ => .nil
  | _, _, _ + 1, .nil => .nil
  | _, _, n + 1, .cons r t => .cons r (t.take n)
theorem RepL.drop : ∀ {vs : List V} {ds : List D} (n : Nat), RepL C th F vs ds → RepL C th F (vs.drop n) (ds.drop n)
  | _, _, 0, r => r
  | _, _, _ + 1, .nil => .nil
  | _, _, n + 1, .cons _ t => t.drop n
theorem RepL.iL : ∀ (l : List Int), RepL C th F (l.map V.int) (iL l)
  | [] => .nil
  | _ :: l => .cons (.int _) (RepL.iL l)
theorem RepL.ofI : ∀ {l : List Int} {vs : List V}, RepL C th F vs (PD.iL l) → vs = l.map V.int
  | [], _, .nil => rfl
  | i :: l, _, .cons h r => by
    cases h
    rw [RepL.ofI r]
    rfl
theorem RepL.rep {n : Nat} : ∀ {vs : List V} {ds : List D}, RepL C th F vs ds → RepL C th F (List.replicate n vs).flatten (List.replicate n ds).flatten := fun {vs ds} h => by
  induction n with
  | zero => exact .nil
  | succ n ih =>
    rw [List.replicate_succ, List.flatten_cons, List.replicate_succ, List.flatten_cons]
    exact h.app ih
end

/-- what the law's source of numbers holds -/
def RngOk (ns : List Int) : Prop := 2 ≤ ns.length ∧ ∀ i ∈ ns, 0 ≤ i

def RepF (C : Cn) (th : List Addr) (F : Hp) : List (Str × V) → List (Str × D) → Prop
  | [], [] => True
  | (f, v) :: r, (g, d) :: s => f = g ∧ Rep C th F v d ∧ RepF C th F r s
  | _, _ => False
theorem RepF.mono {C : Cn} {th th' : List Addr} {F F' : Hp} (l : Le th F th' F') : ∀ {fs : List (Str × V)} {gs : List (Str × D)}, RepF C th F fs gs → RepF C th' F' fs gs
  | [], [], h => h
  | (_, _) :: _, (_, _) :: _, ⟨e, h, r⟩ => ⟨e, h.mono l, RepF.mono l r⟩

/-- a dict of counts: its keys are ints (t false), tuples of ints (t true) -/
def dicO (t : Bool) (kvs : List (List Int × Int)) : HO := if t = true then .dT (kvs.map fun p => (p.1.map Sum.inl, V.int p.2)) else .dK (kvs.map fun p => (Sum.inl (p.1.headD 0), V.int p.2))
def CellAt (C : Cn) (th : List Addr) (F H : Hp) (a : Addr) : Cell → Prop
  | .dead => ∃ o, F a = some o
  | .lst xs => F a = none ∧ ∃ vs, H a = some (.lst vs) ∧ RepL C th F vs xs
  | .ins c fs => F a = none ∧ ∃ dx gs, H a = some (.ins c dx gs) ∧ RepF C th F gs fs
  | .rng => F a = none ∧ ∃ ns : List Int, H a = some (.lst (ns.map V.int)) ∧ RngOk ns
  | .dic t kvs => F a = none ∧ H a = some (dicO t kvs)

structure Hs (C : Cn) (th : List Addr) (F H : Hp) (M : MS) : Prop where
  ex : Ex F H
  len : th.length = M.length
  nd : th.Nodup
  cell : ∀ (k : Nat) (c : Cell) (a : Addr), M[k]? = some c → th[k]? = some a → CellAt C th F H a c

def Sl (C : Cn) (th : List Addr) (F : Hp) (σ : St) (g : En) : Prop :=
  σ.length = g.length ∧ ∀ (i : Nat) (y : D), g[i]? = some (some y) → ∃ v, σ[i]? = some (some v) ∧ Rep C th F v y
structure At (C : Cn) (th : List Addr) (F H : Hp) (σ : St) (g : En) (M : MS) : Prop where
  hs : Hs C th F H M
  sl : Sl C th F σ g

section
variable {C : Cn} {th th' : List Addr} {F F' H H' : Hp} {σ : St} {g : En} {M : MS}
theorem CellAt.there {a : Addr} (ex : Ex F H) : ∀ {c : Cell}, CellAt C th F H a c → ∃ o, H a = some o
  | .dead, ⟨o, h⟩ => ⟨o, ex _ _ h⟩
  | .lst _, ⟨_, _, h, _⟩ => ⟨_, h⟩
  | .ins _ _, ⟨_, _, _, h, _⟩ => ⟨_, h⟩
  | .rng, ⟨_, _, h, _⟩ => ⟨_, h⟩
  | .dic _ _, ⟨_, h⟩ => ⟨_, h⟩
theorem Hs.there (h : Hs C th F H M) {k : Nat} {a : Addr} (e : th[k]? = some a) : ∃ o, H a = some o := by
  have hk : k < M.length := by rw [← h.len]; exact (List.getElem?_eq_some_iff.mp e).1
  exact (h.cell k M[k] a (List.getElem?_eq_getElem hk) e).there h.ex
theorem Hs.fresh (h : Hs C th F H M) {p : Addr} (n : H p = none) {k : Nat} {a : Addr} (e : th[k]? = some a) : a ≠ p := fun z => by
  obtain ⟨o, q⟩ := h.there e
  rw [z, n] at q
  cases q
theorem Sl.mono (l : Le th F th' F') (h : Sl C th F σ g) : Sl C th' F' σ g := ⟨h.1, fun i y e => let ⟨v, a, b⟩ := h.2 i y e; ⟨v, a, b.mono l⟩⟩
theorem Sl.set (h : Sl C th F σ g) (i : Nat) {v : V} {y : D} (r : Rep C th F v y) : Sl C th F (σ.set i (some v)) (g.set i (some y)) := by
  refine ⟨by rw [List.length_set, List.length_set]; exact h.1, fun j z e => ?_⟩
  by_cases q : i = j
  · subst q
    have hl : i < g.length := by
      have := (List.getElem?_eq_some_iff.mp e).1
      rw [List.length_set] at this
      exact this
    rw [List.getElem?_set_self hl] at e
    cases e
    exact ⟨v, List.getElem?_set_self (by rw [h.1]; exact hl), r⟩
  · rw [List.getElem?_set_ne q] at e ⊢
    exact h.2 j z e
/-- a slot is forgotten -/
theorem Sl.forget (h : Sl C th F σ g) (i : Nat) (x : Option V) : Sl C th F (σ.set i x) (g.set i none) := by
  refine ⟨by rw [List.length_set, List.length_set]; exact h.1, fun j z e => ?_⟩
  by_cases q : i = j
  · subst q
    have hl : i < g.length := by
      have := (List.getElem?_eq_some_iff.mp e).1
      rw [List.length_set] at this
      exact this
    rw [List.getElem?_set_self hl] at e
    cases e
  · rw [List.getElem?_set_ne q] at e ⊢
    exact h.2 j z e
/-- the heap grows, nothing that is told changes -/
theorem CellAt.grow (e : Ex H H') {a : Addr} : ∀ {c : Cell}, CellAt C th F H a c → CellAt C th F H' a c
  | .dead, h => h
  | .lst _, ⟨n, vs, h, r⟩ => ⟨n, vs, e _ _ h, r⟩
  | .ins _ _, ⟨n, dx, gs, h, r⟩ => ⟨n, dx, gs, e _ _ h, r⟩
  | .rng, ⟨n, ns, h, r⟩ => ⟨n, ns, e _ _ h, r⟩
  | .dic _ _, ⟨n, h⟩ => ⟨n, e _ _ h⟩
theorem CellAt.mono (l : Le th F th' F') {a : Addr} (hn : F a = none → F' a = none) : ∀ {c : Cell}, CellAt C th F H a c → CellAt C th' F' H a c
  | .dead, ⟨o, h⟩ => ⟨o, l.ex _ _ h⟩
  | .lst _, ⟨n, vs, h, r⟩ => ⟨hn n, vs, h, r.mono l⟩
  | .ins _ _, ⟨n, dx, gs, h, r⟩ => ⟨hn n, dx, gs, h, r.mono l⟩
  | .rng, ⟨n, ns, h, r⟩ => ⟨hn n, ns, h, r⟩
  | .dic _ _, ⟨n, h⟩ => ⟨hn n, h⟩
theorem Hs.grow (h : Hs C th F H M) (e : Ex H H') : Hs C th F H' M := ⟨h.ex.tr e, h.len, h.nd, fun k c a q1 q2 => (h.cell k c a q1 q2).grow e⟩
/-- a new immutable object -/
theorem Hs.new (h : Hs C th F H M) {p : Addr} {o : HO} (n : H p = none) : Hs C th (upd F p o) (upd H p o) M :=
  ⟨h.ex.up, h.len, h.nd, fun k c a q1 q2 => ((h.cell k c a q1 q2).grow (Ex.nw n)).mono (Le.nw (h.ex.fr n)) fun z => by rw [upd_ne (h.fresh n q2)]; exact z⟩
/-- an object, tracked in H already, is told of: no cell's -/
theorem Hs.tell (h : Hs C th F H M) {p : Addr} {o : HO} (hp : H p = some o) (hn : F p = none) (ne : ∀ (k : Nat) (a : Addr), th[k]? = some a → a ≠ p) : Hs C th (upd F p o) H M := by
  refine ⟨fun a u e => ?_, h.len, h.nd, fun k c a q1 q2 => (h.cell k c a q1 q2).mono (Le.nw hn) fun z => by rw [upd_ne (ne k a q2)]; exact z⟩
  by_cases q : a = p
  · subst q; rw [upd_same] at e; cases e; exact hp
  · rw [upd_ne q] at e; exact h.ex a u e
/-- a new cell -/
theorem Hs.push (h : Hs C th F H M) {p : Addr} {o : HO} {c : Cell} (n : H p = none) (hc : CellAt C (th ++ [p]) F (upd H p o) p c) : Hs C (th ++ [p]) F (upd H p o) (M ++ [c]) := by
  have l : Le th F (th ++ [p]) F := ⟨Ex.rfl, fun k a e => by rw [List.getElem?_append_left (List.getElem?_eq_some_iff.mp e).1]; exact e⟩
  refine ⟨h.ex.tr (Ex.nw n), by rw [List.length_append, List.length_append, h.len]; rfl, ?_, fun k c' a q1 q2 => ?_⟩
  · refine List.nodup_append.mpr ⟨h.nd, by simp, fun a ha b hb => ?_⟩
    rw [List.mem_singleton] at hb
    subst hb
    obtain ⟨k, hk⟩ := List.mem_iff_getElem?.mp ha
    exact h.fresh n hk
  · by_cases hk : k < M.length
    · rw [List.getElem?_append_left hk] at q1
      rw [List.getElem?_append_left (by rw [h.len]; exact hk)] at q2
      exact ((h.cell k c' a q1 q2).grow (Ex.nw n)).mono l fun z => z
    · have hk2 : k = M.length := by
        have := (List.getElem?_eq_some_iff.mp q1).1
        rw [List.length_append, List.length_singleton] at this
        omega
      subst hk2
      rw [List.getElem?_append_right (Nat.le_refl _), Nat.sub_self] at q1
      rw [List.getElem?_append_right (by rw [h.len]; exact Nat.le_refl _), h.len, Nat.sub_self] at q2
      cases q1
      cases q2
      exact hc
theorem Le.push {p : Addr} : Le th F (th ++ [p]) F := ⟨Ex.rfl, fun k a e => by rw [List.getElem?_append_left (List.getElem?_eq_some_iff.mp e).1]; exact e⟩
theorem nd_inj {l : List Addr} (h : l.Nodup) {i j : Nat} (hi : i < l.length) (hj : j < l.length) (e : l[i] = l[j]) : i = j := by
  have p := List.pairwise_iff_getElem.mp h
  rcases Nat.lt_trichotomy i j with q | q | q
  · exact absurd e (p i j hi hj q)
  · exact q
  · exact absurd e.symm (p j i hj hi q)
/-- a cell's content changes -/
theorem Hs.put (h : Hs C th F H M) {k : Nat} {p : Addr} {o : HO} {c : Cell} (q : th[k]? = some p) (n : F p = none) (hc : CellAt C th F (upd H p o) p c) : Hs C th F (upd H p o) (M.set k c) := by
  refine ⟨h.ex.mt n, by rw [List.length_set]; exact h.len, h.nd, fun j c' a q1 q2 => ?_⟩
  have hk : k < th.length := (List.getElem?_eq_some_iff.mp q).1
  by_cases e : k = j
  · subst e
    rw [q] at q2
    cases q2
    rw [List.getElem?_set_self (by rw [← h.len]; exact hk)] at q1
    cases q1
    exact hc
  · rw [List.getElem?_set_ne e] at q1
    have ne : a ≠ p := fun z => by
      subst z
      have hj : j < th.length := (List.getElem?_eq_some_iff.mp q2).1
      have e1 := (List.getElem?_eq_some_iff.mp q).2
      have e2 := (List.getElem?_eq_some_iff.mp q2).2
      exact e (nd_inj h.nd _ _ (e1.trans e2.symm))
    have hold := h.cell j c' a q1 q2
    cases c' with
    | dead => exact hold
    | lst xs => obtain ⟨z, vs, z1, z2⟩ := hold; exact ⟨z, vs, by rw [upd_ne ne]; exact z1, z2⟩
    | ins c fs => obtain ⟨z, dx, gs, z1, z2⟩ := hold; exact ⟨z, dx, gs, by rw [upd_ne ne]; exact z1, z2⟩
    | rng => obtain ⟨z, ns, z1, z2⟩ := hold; exact ⟨z, ns, by rw [upd_ne ne]; exact z1, z2⟩
    | dic t kvs => obtain ⟨z, z1⟩ := hold; exact ⟨z, by rw [upd_ne ne]; exact z1⟩
/-- a cell is frozen: its object is told of from now on -/
theorem Hs.freeze (h : Hs C th F H M) {k : Nat} {p : Addr} {o : HO} (q : th[k]? = some p) (n : F p = none) (hp : H p = some o) : Hs C th (upd F p o) H (M.set k .dead) := by
  refine ⟨fun a u e => ?_, by rw [List.length_set]; exact h.len, h.nd, fun j c' a q1 q2 => ?_⟩
  · by_cases z : a = p
    · subst z; rw [upd_same] at e; cases e; exact hp
    · rw [upd_ne z] at e; exact h.ex a u e
  have hk : k < th.length := (List.getElem?_eq_some_iff.mp q).1
  by_cases e : k = j
  · subst e
    rw [q] at q2
    cases q2
    rw [List.getElem?_set_self (by rw [← h.len]; exact hk)] at q1
    cases q1
    exact ⟨_, upd_same⟩
  · rw [List.getElem?_set_ne e] at q1
    have ne : a ≠ p := fun z => by
      subst z
      have e1 := (List.getElem?_eq_some_iff.mp q).2
      have e2 := (List.getElem?_eq_some_iff.mp q2).2
      exact e (nd_inj h.nd _ _ (e1.trans e2.symm))
    exact (h.cell j c' a q1 q2).mono (Le.nw n) fun z => by rw [upd_ne ne]; exact z
/-- the last cells are forgotten -/
theorem Hs.drop {M L : MS} (h : Hs C th F H (M ++ L)) : ∃ th0 t1, th = th0 ++ t1 ∧ th0.length = M.length := by
  refine ⟨th.take M.length, th.drop M.length, (List.take_append_drop _ _).symm, ?_⟩
  rw [List.length_take, h.len, List.length_append]
  omega
end

/-- no cell is named -/
inductive Cln : D → Prop
  | non : Cln .non
  | bl (b : Bool) : Cln (.bl b)
  | int (i : Int) : Cln (.int i)
  | str (x : Str) : Cln (.str x)
  | lst {ds : List D} : (∀ d ∈ ds, Cln d) → Cln (.lst ds)
  | tup {ds : List D} : (∀ d ∈ ds, Cln d) → Cln (.tup ds)
  | gm (n s : Int) (ws : List Int) : Cln (.gm n s ws)
  | dct : Cln .dct
  | scr (l : List Int) : Cln (.scr l)
  | ty (n : String) : Cln (.ty n)
  | gcl : Cln .gcl
  | exc (c f : Str) {y : D} : Cln y → Cln (.exc c f y)
  | exn (c : Str) : Cln (.exn c)
  | ecl (c : Str) : Cln (.ecl c)
theorem Cln.iL {l : List Int} : ∀ d ∈ PD.iL l, Cln d := fun d h => by
  obtain ⟨i, _, rfl⟩ := List.mem_map.mp h
  exact .int i
mutual
theorem Rep.cut {C : Cn} {th th' : List Addr} {F : Hp} : ∀ {v : V} {d : D}, Cln d → Rep C th F v d → Rep C th' F v d
  | _, _, _, .non => .non
  | _, _, _, .bl b => .bl b
  | _, _, _, .int i => .int i
  | _, _, _, .str x => .str x
  | _, _, c, .lst h r => .lst h (RepL.cut (by cases c with | lst q => exact q) r)
  | _, _, c, .tup h r => .tup h (RepL.cut (by cases c with | tup q => exact q) r)
  | _, _, _, .gm h r => .gm h r
  | _, _, _, .scr h => .scr h
  | _, _, _, .ty n => .ty n
  | _, _, _, .gcl => .gcl
  | _, _, _, .dct h => .dct h
  | _, _, c, .exc h g r => .exc h g (Rep.cut (by cases c with | exc _ _ q => exact q) r)
  | _, _, _, .exn h => .exn h
  | _, _, _, .ecl n => .ecl n
  | _, _, c, .ptr _ => by cases c
theorem RepL.cut {C : Cn} {th th' : List Addr} {F : Hp} : ∀ {vs : List V} {ds : List D}, (∀ d ∈ ds, Cln d) → RepL C th F vs ds → RepL C th' F vs ds
  | _, _, _, .nil => .nil
  | _, _, c, .cons h r => .cons (Rep.cut (c _ List.mem_cons_self) h) (RepL.cut (fun d q => c d (List.mem_cons_of_mem _ q)) r)
end
end PD

/-! PD: the lifted readings. -/
namespace PD
open PySem PySem.Spec PyProof.Rows L2

/-- an error: its class's name, its field -/
structure Exn where
  cls : Str
  fld : Option (Str × D)
abbrev EK := Exn → MS → Prop
abbrev Kd := D → MS → Prop
abbrev DE := En → MS → EK → (D → MS → Prop) → Prop
abbrev DT := En → MS → EK → (Bool → MS → Prop) → Prop
abbrev DA := En → MS → EK → (List D → MS → Prop) → Prop
abbrev DO := En → MS → EK → (Option Int → MS → Prop) → Prop

def ExcAt (C : Cn) (th : List Addr) (F H : Hp) (e : Exn) (cls : Value) (dd : Option Addr) : Prop :=
  cls = .ref (C.cl e.cls) ∧ match e.fld with
    | none => dd = none
    | some (f, y) => ∃ a v, dd = some a ∧ H a = some (.xd [(f, v)]) ∧ Rep C th F v y

section
variable {V' α : Type} (C : Cn) (W : WX) (rel : List Addr → Hp → V' → α → Prop)
structure Pk (σ : L2.St) (Q : V' → Hp → Prop) (th : List Addr) (F H : Hp) (g : En) (M : MS) (X : EK) (P : α → MS → Prop) : Prop where
  at_ : At C th F H σ g M
  ok : ∀ (y : α) (M' : MS) (v : V') (th' : List Addr) (F' H' : Hp), P y M' → Hs C th' F' H' M' → Le th F th' F' → rel th' F' v y → Q v H'
  ex : ∀ (e : Exn) (M' : MS) (th' : List Addr) (F' H' : Hp) (cls : Value) (dd : Option Addr), X e M' → Hs C th' F' H' M' → Le th F th' F' → ExcAt C th' F' H' e cls dd → W cls dd σ H'
def Up (d : En → MS → EK → (α → MS → Prop) → Prop) : L2.St → Hp → (V' → Hp → Prop) → Prop := fun σ H Q =>
  ∃ th F g M X P, Pk C W rel σ Q th F H g M X P ∧ d g M X P
end
def rD (C : Cn) : List Addr → Hp → V → D → Prop := fun th F v y => Rep C th F v y
def rB : List Addr → Hp → Bool → Bool → Prop := fun _ _ v y => v = y
def rL (C : Cn) : List Addr → Hp → List V → List D → Prop := fun th F v y => RepL C th F v y
def rO : List Addr → Hp → Option Int → Option Int → Prop := fun _ _ v y => v = y
abbrev upE (C : Cn) (W : WX) (d : DE) : TE := Up C W (rD C) d
abbrev upT (C : Cn) (W : WX) (d : DT) : TT := Up C W rB d
abbrev upA (C : Cn) (W : WX) (d : DA) : TA := Up C W (rL C) d
abbrev upO (C : Cn) (W : WX) (d : DO) : TO := Up C W rO d

section
variable {V' V1 α β : Type} {C : Cn} {W : WX} {rel : List Addr → Hp → V' → α → Prop} {rel1 : List Addr → Hp → V1 → β → Prop} {σ : L2.St} {Q : V' → Hp → Prop} {th th' : List Addr} {F F' H H' : Hp} {g : En} {M M' : MS} {X : EK} {P : α → MS → Prop}
theorem Pk.step (p : Pk C W rel σ Q th F H g M X P) (h : Hs C th' F' H' M') (l : Le th F th' F') : Pk C W rel σ Q th' F' H' g M' X P :=
  ⟨⟨h, p.at_.sl.mono l⟩, fun y M2 v t2 F2 H2 q h2 l2 r => p.ok y M2 v t2 F2 H2 q h2 (l.tr l2) r, fun e M2 t2 F2 H2 c d q h2 l2 x => p.ex e M2 t2 F2 H2 c d q h2 (l.tr l2) x⟩
theorem Pk.bind (p : Pk C W rel σ Q th F H g M X P) {da : En → MS → EK → (β → MS → Prop) → Prop} {f : β → MS → Prop} {R : V1 → Hp → Prop} (h : da g M X f)
    (s : ∀ (x : β) (v : V1) (th' : List Addr) (F' H' : Hp) (M' : MS), f x M' → rel1 th' F' v x → Le th F th' F' → Pk C W rel σ Q th' F' H' g M' X P → R v H') : Up C W rel1 da σ H R :=
  ⟨th, F, g, M, X, f, ⟨p.at_, fun y M' v th' F' H' q h' l r => s y v th' F' H' M' q r l (p.step h' l), p.ex⟩, h⟩
theorem Pk.up (p : Pk C W rel σ Q th F H g M X P) {d : En → MS → EK → (α → MS → Prop) → Prop} (h : d g M X P) : Up C W rel d σ H Q := ⟨th, F, g, M, X, P, p, h⟩
/-- the end: the heap as it is -/
theorem Pk.fin (p : Pk C W rel σ Q th F H g M X P) {y : α} {v : V'} (q : P y M) (r : rel th F v y) : Q v H := p.ok y M v th F H q p.at_.hs Le.rfl r
/-- the end: a new immutable object -/
theorem Pk.new (p : Pk C W rel σ Q th F H g M X P) {y : α} {v : V'} {a : Addr} {o : HO} (n : H a = none) (q : P y M) (r : Le th F th (upd F a o) → rel th (upd F a o) v y) : Q v (upd H a o) :=
  p.ok y M v th (upd F a o) (upd H a o) q (p.at_.hs.new n) (Le.nw (p.at_.hs.ex.fr n)) (r (Le.nw (p.at_.hs.ex.fr n)))
end
theorem pe_imp {X : Cx} {e : Expr} {t t' : TE} (h : PE X e t) (k : ∀ σ H Q, t' σ H Q → t σ H Q) : PE X e t' := ⟨fun pins s σ H Q I q => h.run pins s σ H Q I (k σ H Q q)⟩
theorem pt_imp {X : Cx} {e : Expr} {t t' : TT} (h : PT X e t) (k : ∀ σ H Q, t' σ H Q → t σ H Q) : PT X e t' := ⟨fun pins s σ H Q I q => h.run pins s σ H Q I (k σ H Q q)⟩
theorem pw_imp {X : Cx} {e : Expr} {t t' : TT} (h : PW X e t) (k : ∀ σ H Q, t' σ H Q → t σ H Q) : PW X e t' := ⟨fun wh pins s σ H Q I q => h.run wh pins s σ H Q I (k σ H Q q)⟩
theorem pa_imp {X : Cx} {e : List Expr} {t t' : TA} (h : PA X e t) (k : ∀ σ H Q, t' σ H Q → t σ H Q) : PA X e t' := ⟨fun pos pins s σ H Q I q => h.run pos pins s σ H Q I (k σ H Q q)⟩
theorem po_imp {X : Cx} {e : Option Expr} {t t' : TO} (h : PO X e t) (k : ∀ σ H Q, t' σ H Q → t σ H Q) : PO X e t' := ⟨fun pins s σ H Q I q => h.run pins s σ H Q I (k σ H Q q)⟩
theorem ps_imp {X : Cx} {e : Stmt} {t t' : TS} (h : PS X e t) (k : ∀ D σ H, t' D σ H → t D σ H) : PS X e t' := ⟨fun pins s σ H D I q => h.run pins s σ H D I (k D σ H q)⟩
theorem pss_imp {X : Cx} {e : List Stmt} {t t' : TS} (h : PSs X e t) (k : ∀ D σ H, t' D σ H → t D σ H) : PSs X e t' := ⟨fun pins s σ H D I q => h.run pins s σ H D I (k D σ H q)⟩

/-! ### expressions -/
def dV (i : Nat) : DE := fun g M _ k => ∃ y, g[i]? = some (some y) ∧ k y M
def dC (y : D) : DE := fun _ M _ k => k y M
def dI (i : Int) : DE := dC (.int i)
def dOp (r : D → D → MS → (D → Prop) → Prop) (da db : DE) : DE := fun g M X k => da g M X fun x M1 => db g M1 X fun y M2 => r x y M2 fun z => k z M2
def dUn (r : D → MS → (D → Prop) → Prop) (da : DE) : DE := fun g M X k => da g M X fun x M1 => r x M1 fun z => k z M1
def dCh (r r' : D → D → MS → (D → Prop) → Prop) (da db dc : DE) : DE := fun g M X k => da g M X fun x M1 => db g M1 X fun y M2 => r x y M2 fun z =>
  ∃ b, z = .bl b ∧ if b = true then dc g M2 X fun w M3 => r' y w M3 fun u => k u M3 else k (.bl false) M2
def dB (d : DE) : DT := fun g M X k => d g M X fun x M1 => ∃ b, x = .bl b ∧ k b M1
def dAnd (a b : DT) : DT := fun g M X k => a g M X fun c M1 => if c = true then b g M1 X k else k false M1
def dOr (a b : DT) : DT := fun g M X k => a g M X fun c M1 => if c = true then k true M1 else b g M1 X k
def dNot (a : DT) : DT := fun g M X k => a g M X fun c M1 => k (!c) M1
def dAndV (a b : DE) : DE := fun g M X k => a g M X fun x M1 => ∃ c, x = .bl c ∧ if c = true then b g M1 X k else k (.bl false) M1
def dOrV (a b : DE) : DE := fun g M X k => a g M X fun x M1 => ∃ c, x = .bl c ∧ if c = true then k (.bl true) M1 else b g M1 X k
def dNotV (a : DE) : DE := fun g M X k => a g M X fun x M1 => ∃ c, x = .bl c ∧ k (.bl (!c)) M1
def dIf (t : DT) (a b : DE) : DE := fun g M X k => t g M X fun c M1 => if c = true then a g M1 X k else b g M1 X k
def dNil : DA := fun _ M _ k => k [] M
def dCons (a : DE) (r : DA) : DA := fun g M X k => a g M X fun x M1 => r g M1 X fun xs M2 => k (x :: xs) M2
/-- the items of a list or tuple: a list cell's too -/
def seqOf (x : D) (M : MS) : Option (List D) := match x with
  | .lst xs => some xs
  | .tup xs => some xs
  | .ptr j => match M[j]? with
    | some (.lst xs) => some xs
    | _ => none
  | _ => none
def lstOf (x : D) (M : MS) : Option (List D) := match x with
  | .lst xs => some xs
  | .ptr j => match M[j]? with
    | some (.lst xs) => some xs
    | _ => none
  | _ => none
def dStar (a : DE) (r : DA) : DA := fun g M X k => a g M X fun x M1 => ∃ xs, seqOf x M1 = some xs ∧ r g M1 X fun ys M2 => k (xs ++ ys) M2
def dTup (a : DA) : DE := fun g M X k => a g M X fun xs M1 => xs.length ≤ sizeLine ∧ k (.tup xs) M1
def dLst (a : DA) : DE := fun g M X k => a g M X fun xs M1 => xs.length ≤ sizeLine ∧ k (.lst xs) M1
def dCB (r : List D → MS → (D → Prop) → Prop) (a : DA) : DE := fun g M X k => a g M X fun xs M1 => r xs M1 fun z => k z M1
def dNoPart : DO := fun _ M _ k => k none M
def dPart (a : DE) : DO := fun g M X k => a g M X fun x M1 => ∃ i, x = .int i ∧ k (some i) M1
def dSl (r : D → Option Int → Option Int → MS → (D → Prop) → Prop) (a : DE) (lo hi : DO) : DE := fun g M X k => a g M X fun x M1 => lo g M1 X fun l M2 => hi g M2 X fun u M3 => r x l u M3 fun z => k z M3

/-- a value's operation and the data's -/
def Lk2 (C : Cn) (rv : R2) (rd : D → D → MS → (D → Prop) → Prop) : Prop :=
  ∀ (x y : D) (M : MS) (k : D → Prop) (v w : V) (th : List Addr) (F H : Hp) (Q : VK), Hs C th F H M → Rep C th F v x → Rep C th F w y → rd x y M k →
    (∀ (z : D) (u : V) (F' H' : Hp), k z → Hs C th F' H' M → Le th F th F' → Rep C th F' u z → Q u H') → rv v w H Q
def Lk1 (C : Cn) (rv : V → Hp → VK → Prop) (rd : D → MS → (D → Prop) → Prop) : Prop :=
  ∀ (x : D) (M : MS) (k : D → Prop) (v : V) (th : List Addr) (F H : Hp) (Q : VK), Hs C th F H M → Rep C th F v x → rd x M k →
    (∀ (z : D) (u : V) (F' H' : Hp), k z → Hs C th F' H' M → Le th F th F' → Rep C th F' u z → Q u H') → rv v H Q
def LkA (C : Cn) (rv : List V → Hp → VK → Prop) (rd : List D → MS → (D → Prop) → Prop) : Prop :=
  ∀ (xs : List D) (M : MS) (k : D → Prop) (vs : List V) (th : List Addr) (F H : Hp) (Q : VK), Hs C th F H M → RepL C th F vs xs → rd xs M k →
    (∀ (z : D) (u : V) (F' H' : Hp), k z → Hs C th F' H' M → Le th F th F' → Rep C th F' u z → Q u H') → rv vs H Q
def LkS (C : Cn) (rv : V → Option Int → Option Int → Hp → VK → Prop) (rd : D → Option Int → Option Int → MS → (D → Prop) → Prop) : Prop :=
  ∀ (x : D) (lo hi : Option Int) (M : MS) (k : D → Prop) (v : V) (th : List Addr) (F H : Hp) (Q : VK), Hs C th F H M → Rep C th F v x → rd x lo hi M k →
    (∀ (z : D) (u : V) (F' H' : Hp), k z → Hs C th F' H' M → Le th F th F' → Rep C th F' u z → Q u H') → rv v lo hi H Q
section
variable {C : Cn} {W : WX} {σ : L2.St} {th : List Addr} {F H : Hp} {g : En} {M : MS} {X : EK} {P : D → MS → Prop} {Q : VK}
/-- behind an operation -/
theorem Pk.opk (p : Pk C W (rD C) σ Q th F H g M X P) : ∀ (z : D) (u : V) (F' H' : Hp), P z M → Hs C th F' H' M → Le th F th F' → Rep C th F' u z → Q u H' :=
  fun z u F' H' q h l r => p.ok z M u th F' H' q h l r
end

section
variable {X : Cx} {C : Cn} {W : WX} {a b c : Expr} {da db dc : DE} {ta tb : DT} {pos : Pos} {es rest : List Expr} {ea : DA}
theorem de_v {x : Str} (i : Nat) (hN : X.N[i]? = some x := by rfl) (hv : Vis X.env.scope x := by first | exact Or.inl rfl | exact Or.inr (Or.inl rfl) | exact Or.inr (Or.inr rfl)) (hd : (x == ("__debug__" : Str)) = false := by decide)
    (hcd : (x == ("__classdict__" : Str)) = false := by decide) : PE X (.Name x pos) (upE C W (dV i)) :=
  pe_imp (pe_var hN hv hd hcd) fun σ H Q h => by
    obtain ⟨th, F, g, M, X', P, p, y, e, q⟩ := h
    obtain ⟨v, e', r⟩ := p.at_.sl.2 i y e
    exact ⟨v, e', p.fin q r⟩
theorem de_c {e : Expr} {v : V} {y : D} (h : PE X e (tC v)) (r : ∀ th F, Rep C th F v y) : PE X e (upE C W (dC y)) :=
  pe_imp h fun σ H Q q => by
    obtain ⟨th, F, g, M, X', P, p, q⟩ := q
    exact p.fin q (r th F)
theorem de_int {i : Int} {j : Nat} : PE X (.Constant (.int i) j pos) (upE C W (dC (.int i))) := de_c pe_int fun _ _ => .int i
theorem de_bl {i : Bool} {j : Nat} : PE X (.Constant (.bool i) j pos) (upE C W (dC (.bl i))) := de_c pe_bl fun _ _ => .bl i
theorem de_non {j : Nat} : PE X (.Constant .none j pos) (upE C W (dC .non)) := de_c pe_non fun _ _ => .non
theorem de_str {x : Str} {j : Nat} : PE X (.Constant (.str x) j pos) (upE C W (dC (.str x))) := de_c pe_str fun _ _ => .str x
theorem de_globI {x : Str} {i : Int} {t : Tok} (hg : Gl X x) (hm : X.mg x = some (.int i t)) (hd : (x == ("__debug__" : Str)) = false := by decide) : PE X (.Name x pos) (upE C W (dC (.int i))) :=
  de_c (pe_glob hg hm (v := .int i) ⟨t, rfl⟩ hd) fun _ _ => .int i
theorem de_globS {x : Str} {i : Str} {t : Tok} (hg : Gl X x) (hm : X.mg x = some (.str i t)) (hd : (x == ("__debug__" : Str)) = false := by decide) : PE X (.Name x pos) (upE C W (dC (.str i))) :=
  de_c (pe_glob hg hm (v := .str i) ⟨t, rfl⟩ hd) fun _ _ => .str i
theorem op_up {rv : R2} {rd : D → D → MS → (D → Prop) → Prop} (l : Lk2 C rv rd) : ∀ σ H Q, upE C W (dOp rd da db) σ H Q → tOp rv (upE C W da) (upE C W db) σ H Q := fun σ H Q h => by
  obtain ⟨th, F, g, M, X, P, p, h⟩ := h
  refine p.bind h fun x v t1 F1 H1 M1 h1 rx l1 p1 => p1.bind h1 fun y w t2 F2 H2 M2 h2 ry l2 p2 => ?_
  exact l x y M2 _ v w t2 F2 H2 Q p2.at_.hs (rx.mono l2) ry h2 p2.opk
theorem de_op {op : Operator} {rv : R2} {rd : D → D → MS → (D → Prop) → Prop} (ho : OpR X (binaryOp op) rv) (l : Lk2 C rv rd) (ha : PE X a (upE C W da)) (hb : PE X b (upE C W db)) : PE X (.BinOp a op b pos) (upE C W (dOp rd da db)) :=
  pe_imp (pe_op ho ha hb) (op_up l)
theorem de_cmp {op : CmpOp} {rv : R2} {rd : D → D → MS → (D → Prop) → Prop} (ho : OpR X (compareOp op) rv) (l : Lk2 C rv rd) (ha : PE X a (upE C W da)) (hb : PE X b (upE C W db)) (hm : behindInMarks op b = false := by exact nomark _) : PE X (.Compare a [op] [b] pos) (upE C W (dOp rd da db)) :=
  pe_imp (pe_cmpR ho ha hb hm) (op_up l)
theorem dt_of {e : Expr} {t : TE} {d : DE} (h : PT X e (tTest t)) (k : ∀ σ H Q, upE C W d σ H Q → t σ H Q) : PT X e (upT C W (dB d)) := pt_imp h fun σ H Q h => by
  obtain ⟨th, F, g, M, X, P, p, h⟩ := h
  refine k σ H _ (p.bind h fun x v t1 F1 H1 M1 h1 rx l1 p1 => ?_)
  obtain ⟨b, e, q⟩ := h1
  subst e
  cases rx
  exact ⟨b, rfl, p1.fin q rfl⟩
theorem dt_cmp {op : CmpOp} {rv : R2} {rd : D → D → MS → (D → Prop) → Prop} (ho : OpR X (compareOp op) rv) (l : Lk2 C rv rd) (ha : PE X a (upE C W da)) (hb : PE X b (upE C W db)) (hm : behindInMarks op b = false := by exact nomark _) : PT X (.Compare a [op] [b] pos) (upT C W (dB (dOp rd da db))) :=
  dt_of (pt_cmpR ho ha hb hm) (op_up l)
theorem ch_up {rv rv' : R2} {rd rd' : D → D → MS → (D → Prop) → Prop} (l : Lk2 C rv rd) (l' : Lk2 C rv' rd') : ∀ σ H Q, upE C W (dCh rd rd' da db dc) σ H Q → tChain rv rv' (upE C W da) (upE C W db) (upE C W dc) σ H Q := fun σ H Q h => by
  obtain ⟨th, F, g, M, X, P, p, h⟩ := h
  refine p.bind h fun x v t1 F1 H1 M1 h1 rx l1 p1 => p1.bind h1 fun y w t2 F2 H2 M2 h2 ry l2 p2 => ?_
  refine l x y M2 _ v w t2 F2 H2 _ p2.at_.hs (rx.mono l2) ry h2 fun z u F3 H3 h3 s3 l3 r3 => ?_
  obtain ⟨b, e, q⟩ := h3
  subst e
  cases r3
  refine ⟨b, rfl, ?_⟩
  have p3 := p2.step s3 l3
  cases b with
  | false => exact p3.fin q (.bl false)
  | true => exact p3.bind q fun z' w' t4 F4 H4 M4 h4 rz l4 p4 => l' y z' M4 _ w w' t4 F4 H4 Q p4.at_.hs (ry.mono (l3.tr l4)) rz h4 p4.opk
theorem de_ch {op op' : CmpOp} {rv rv' : R2} {rd rd' : D → D → MS → (D → Prop) → Prop} (ho : OpR X (compareOp op) rv) (ho' : OpR X (compareOp op') rv') (l : Lk2 C rv rd) (l' : Lk2 C rv' rd') (ha : PE X a (upE C W da)) (hb : PE X b (upE C W db)) (hc : PE X c (upE C W dc))
    (hm : lastMarks [op, op'] [b, c] = false := by with_unfolding_all rfl) : PE X (.Compare a [op, op'] [b, c] pos) (upE C W (dCh rd rd' da db dc)) := pe_imp (pe_chain ho ho' ha hb hc hm) (ch_up l l')
theorem dt_ch {op op' : CmpOp} {rv rv' : R2} {rd rd' : D → D → MS → (D → Prop) → Prop} (ho : OpR X (compareOp op) rv) (ho' : OpR X (compareOp op') rv') (l : Lk2 C rv rd) (l' : Lk2 C rv' rd') (ha : PE X a (upE C W da)) (hb : PE X b (upE C W db)) (hc : PE X c (upE C W dc))
    (hm : lastMarks [op, op'] [b, c] = false := by with_unfolding_all rfl) : PT X (.Compare a [op, op'] [b, c] pos) (upT C W (dB (dCh rd rd' da db dc))) := dt_of (pt_chain ho ho' ha hb hc hm) (ch_up l l')
/-- a test by its value: a call, a name, a subscript .. -/
theorem dt_val {e : Expr} (h : PE X e (upE C W da)) (he : ∀ whole, isTrue e X.env whole = (do let v ← whole; standAt e.pos; holding [v] (truthy v)) := by intro _; rfl) : PT X e (upT C W (dB da)) :=
  dt_of (t := upE C W da) (pt_imp (pt_val h he) fun _ _ _ h => h) fun _ _ _ h => h
theorem de_un {op : UnaryOp} {rv : V → Hp → VK → Prop} {rd : D → MS → (D → Prop) → Prop} (ho : UnR X (unaryOp op) rv) (l : Lk1 C rv rd) (ha : PE X a (upE C W da)) : PE X (.UnaryOp op a pos) (upE C W (dUn rd da)) :=
  pe_imp (pe_un ho ha) fun σ H Q h => by
    obtain ⟨th, F, g, M, X, P, p, h⟩ := h
    exact p.bind h fun x v t1 F1 H1 M1 h1 rx l1 p1 => l x M1 _ v t1 F1 H1 Q p1.at_.hs rx h1 p1.opk
theorem dt_not (h : PT X a (upT C W ta)) : PT X (.UnaryOp .Not a pos) (upT C W (dNot ta)) := pt_imp (pt_not h) fun σ H Q h => by
  obtain ⟨th, F, g, M, X, P, p, h⟩ := h
  refine p.bind h fun x v t1 F1 H1 M1 h1 rx l1 p1 => ?_
  cases rx
  exact p1.fin h1 rfl
theorem dw_and1 (h : PT X a (upT C W ta)) : PW X (.BoolOp .And [a] pos) (upT C W ta) := pw_and1 h
theorem dw_or1 (h : PT X a (upT C W ta)) : PW X (.BoolOp .Or [a] pos) (upT C W ta) := pw_or1 h
theorem dw_and (ha : PT X a (upT C W ta)) (hb : PW X (.BoolOp .And (b :: rest) pos) (upT C W tb)) : PW X (.BoolOp .And (a :: b :: rest) pos) (upT C W (dAnd ta tb)) := pw_imp (pw_and ha hb) fun σ H Q h => by
  obtain ⟨th, F, g, M, X, P, p, h⟩ := h
  refine p.bind h fun x v t1 F1 H1 M1 h1 rx l1 p1 => ?_
  cases rx
  cases x with
  | true => exact p1.up h1
  | false => exact p1.fin h1 rfl
theorem dw_or (ha : PT X a (upT C W ta)) (hb : PW X (.BoolOp .Or (b :: rest) pos) (upT C W tb)) : PW X (.BoolOp .Or (a :: b :: rest) pos) (upT C W (dOr ta tb)) := pw_imp (pw_or ha hb) fun σ H Q h => by
  obtain ⟨th, F, g, M, X, P, p, h⟩ := h
  refine p.bind h fun x v t1 F1 H1 M1 h1 rx l1 p1 => ?_
  cases rx
  cases x with
  | true => exact p1.fin h1 rfl
  | false => exact p1.up h1
theorem de_and (ha : PE X a (upE C W da)) (hb : PE X (.BoolOp .And (b :: rest) pos) (upE C W db)) : PE X (.BoolOp .And (a :: b :: rest) pos) (upE C W (dAndV da db)) := pe_imp (pe_and ha hb) fun σ H Q h => by
  obtain ⟨th, F, g, M, X, P, p, h⟩ := h
  refine p.bind h fun x v t1 F1 H1 M1 h1 rx l1 p1 => ?_
  obtain ⟨c, e, q⟩ := h1
  subst e
  cases rx
  refine ⟨c, rfl, ?_⟩
  cases c with
  | true => exact p1.up q
  | false => exact p1.fin q (.bl false)
theorem de_or (ha : PE X a (upE C W da)) (hb : PE X (.BoolOp .Or (b :: rest) pos) (upE C W db)) : PE X (.BoolOp .Or (a :: b :: rest) pos) (upE C W (dOrV da db)) := pe_imp (pe_or ha hb) fun σ H Q h => by
  obtain ⟨th, F, g, M, X, P, p, h⟩ := h
  refine p.bind h fun x v t1 F1 H1 M1 h1 rx l1 p1 => ?_
  obtain ⟨c, e, q⟩ := h1
  subst e
  cases rx
  refine ⟨c, rfl, ?_⟩
  cases c with
  | true => exact p1.fin q (.bl true)
  | false => exact p1.up q
theorem de_one {op : BoolOp} (h : PE X a (upE C W da)) : PE X (.BoolOp op [a] pos) (upE C W da) := pe_one h
theorem de_not (ha : PE X a (upE C W da)) : PE X (.UnaryOp .Not a pos) (upE C W (dNotV da)) := pe_imp (pe_not ha) fun σ H Q h => by
  obtain ⟨th, F, g, M, X, P, p, h⟩ := h
  refine p.bind h fun x v t1 F1 H1 M1 h1 rx l1 p1 => ?_
  obtain ⟨c, e, q⟩ := h1
  subst e
  cases rx
  exact ⟨c, rfl, p1.fin q (.bl _)⟩
theorem de_if (hc : PT X c (upT C W ta)) (ha : PE X a (upE C W da)) (hb : PE X b (upE C W db)) : PE X (.IfExp c a b pos) (upE C W (dIf ta da db)) := pe_imp (pe_ifExp hc ha hb) fun σ H Q h => by
  obtain ⟨th, F, g, M, X, P, p, h⟩ := h
  refine p.bind h fun x v t1 F1 H1 M1 h1 rx l1 p1 => ?_
  cases rx
  cases x with
  | true => exact p1.up h1
  | false => exact p1.up h1
theorem da_nil : PA X [] (upA C W dNil) := pa_imp pa_nil fun σ H Q h => by
  obtain ⟨th, F, g, M, X, P, p, h⟩ := h
  exact p.fin h .nil
theorem da_cons (ha : PE X a (upE C W da)) (hr : PA X es (upA C W ea)) (he : starEach (a :: es) X.env = (false, eval a X.env) :: starEach es X.env := by rfl) : PA X (a :: es) (upA C W (dCons da ea)) := pa_imp (pa_cons ha hr he) fun σ H Q h => by
  obtain ⟨th, F, g, M, X, P, p, h⟩ := h
  exact p.bind h fun x v t1 F1 H1 M1 h1 rx l1 p1 => p1.bind h1 fun xs vs t2 F2 H2 M2 h2 rs l2 p2 => p2.fin h2 (.cons (rx.mono l2) rs)
end
end PD

/-! PD: operators, built-ins, displays, items, slices. -/
namespace PD
open PySem PySem.Spec PyProof.Rows L2

section
variable {C : Cn} {th : List Addr} {F H : Hp} {M : MS} {v : V} {x : D} {xs : List D}
theorem lst_at (h : Hs C th F H M) (r : Rep C th F v x) (e : lstOf x M = some xs) : ∃ a vs, v = .ref a ∧ H a = some (.lst vs) ∧ RepL C th F vs xs := by
  cases r with
  | lst q r =>
    cases e
    exact ⟨_, _, rfl, h.ex _ _ q, r⟩
  | @ptr a k q =>
    unfold lstOf at e
    dsimp only at e
    split at e
    · rename_i ys hm
      cases e
      obtain ⟨_, vs, q2, r⟩ := h.cell _ _ _ hm q
      exact ⟨_, _, rfl, q2, r⟩
    · cases e
  | _ => cases e
theorem seq_at (h : Hs C th F H M) (r : Rep C th F v x) (e : seqOf x M = some xs) : ∃ a vs, v = .ref a ∧ (H a = some (.lst vs) ∨ H a = some (.tup vs)) ∧ RepL C th F vs xs := by
  cases r with
  | lst q r =>
    cases e
    exact ⟨_, _, rfl, .inl (h.ex _ _ q), r⟩
  | tup q r =>
    cases e
    exact ⟨_, _, rfl, .inr (h.ex _ _ q), r⟩
  | @ptr a k q =>
    unfold seqOf at e
    dsimp only at e
    split at e
    · rename_i ys hm
      cases e
      obtain ⟨_, vs, q2, r⟩ := h.cell _ _ _ hm q
      exact ⟨_, _, rfl, .inl q2, r⟩
    · cases e
  | _ => cases e
theorem RepL.cons' {y : D} {ys : List D} {vs : List V} (r : RepL C th F vs (y :: ys)) : ∃ v ws, vs = v :: ws ∧ Rep C th F v y ∧ RepL C th F ws ys := by
  cases r with
  | cons h t => exact ⟨_, _, rfl, h, t⟩
theorem RepL.nil' {vs : List V} (r : RepL C th F vs []) : vs = [] := by
  cases r
  rfl
theorem RepL.one' {y : D} {vs : List V} (r : RepL C th F vs [y]) : ∃ v, vs = [v] ∧ Rep C th F v y := by
  obtain ⟨v, ws, rfl, h, t⟩ := r.cons'
  rw [t.nil']
  exact ⟨v, rfl, h⟩
theorem RepL.two' {y z : D} {vs : List V} (r : RepL C th F vs [y, z]) : ∃ v w, vs = [v, w] ∧ Rep C th F v y ∧ Rep C th F w z := by
  obtain ⟨v, ws, rfl, h, t⟩ := r.cons'
  obtain ⟨w, rfl, h2⟩ := t.one'
  exact ⟨v, w, rfl, h, h2⟩
end

/-! ### displays -/
section
variable {X : Cx} {C : Cn} {W : WX} {a b c : Expr} {da db dc : DE} {pos p : Pos} {es : List Expr} {ea : DA}
theorem da_star (ha : PE X a (upE C W da)) (hr : PA X es (upA C W ea)) (hs : starEach (.Starred a p :: es) X.env = (true, eval a X.env) :: starEach es X.env := by rfl) : PA X (.Starred a p :: es) (upA C W (dStar da ea)) :=
  pa_imp (StX.pa_star ha hr hs) fun σ H Q h => by
    obtain ⟨th, F, g, M, X', P, p, h⟩ := h
    refine p.bind h fun x v t1 F1 H1 M1 h1 rx l1 p1 => ?_
    obtain ⟨xs, e, q⟩ := h1
    obtain ⟨a, vs, rfl, ha, r⟩ := seq_at p1.at_.hs rx e
    refine ⟨a, vs, rfl, ha.elim (fun z => .inr (SqL.of z)) (fun z => .inl (SqT.of z)), p1.bind q fun ys ws t2 F2 H2 M2 h2 rs l2 p2 => p2.fin h2 ((r.mono l2).app rs)⟩
theorem de_tup {k : Nat} (h : PA X es (upA C W ea)) : PE X (.Tuple es k pos) (upE C W (dTup ea)) := pe_imp (pe_tup h) fun σ H Q h => by
  obtain ⟨th, F, g, M, X', P, p, h⟩ := h
  refine p.bind h fun xs vs t1 F1 H1 M1 h1 rx l1 p1 => ?_
  refine ⟨by rw [RepL.len rx]; exact h1.1, fun q hq => p1.new hq h1.2 fun l => .tup upd_same (rx.mono l)⟩
theorem de_lst (h : PA X es (upA C W ea)) : PE X (.List es pos) (upE C W (dLst ea)) := pe_imp (pe_lst h) fun σ H Q h => by
  obtain ⟨th, F, g, M, X', P, p, h⟩ := h
  refine p.bind h fun xs vs t1 F1 H1 M1 h1 rx l1 p1 => ?_
  refine ⟨by rw [RepL.len rx]; exact h1.1, fun q hq => p1.new hq h1.2 fun l => .lst upd_same (rx.mono l)⟩
theorem de_dct : PE X (.Dict [] [] pos) (upE C W (dC .dct)) := pe_imp pe_dnewK fun σ H Q h => by
  obtain ⟨th, F, g, M, X', P, p, h⟩ := h
  exact fun q hq => p.new hq h fun l => .dct upd_same
end

/-! ### ints -/
def dI2 (c : Int → Int → Prop) (f : Int → Int → D) : D → D → MS → (D → Prop) → Prop := fun x y _ k => ∃ i j, x = .int i ∧ y = .int j ∧ c i j ∧ k (f i j)
def dI0 (f : Int → Int → D) : D → D → MS → (D → Prop) → Prop := fun x y _ k => ∃ i j, x = .int i ∧ y = .int j ∧ k (f i j)
theorem lk_I {C : Cn} {c : Int → Int → Prop} {f : Int → Int → V} {d : Int → Int → D} (r : ∀ i j th F, Rep C th F (f i j) (d i j)) : Lk2 C (rI c f) (dI2 c d) := by
  rintro x y M k v w th F H Q hs rx ry ⟨i, j, rfl, rfl, hc, q⟩ kk
  cases rx
  cases ry
  exact ⟨i, j, rfl, rfl, hc, kk _ _ F H q hs Le.rfl (r i j th F)⟩
theorem lk_I0 {C : Cn} {f : Int → Int → V} {d : Int → Int → D} (r : ∀ i j th F, Rep C th F (f i j) (d i j)) : Lk2 C (rI0 f) (dI0 d) := by
  rintro x y M k v w th F H Q hs rx ry ⟨i, j, rfl, rfl, q⟩ kk
  cases rx
  cases ry
  exact ⟨i, j, rfl, rfl, kk _ _ F H q hs Le.rfl (r i j th F)⟩
abbrev rdAdd := dI0 fun i j => .int (i + j)
abbrev rdSub := dI0 fun i j => .int (i - j)
def CMulB (i j : Int) : Prop := CMul i j ∨ CMulW i j
abbrev rdMul := dI2 CMulB fun i j => .int (i * j)
abbrev rdDiv := dI2 CDivW fun i j => .int (i / j)
abbrev rdMod := dI2 (fun _ j => 0 < j) fun i j => .int (i % j)
abbrev rdPow := dI2 CPow fun i j => .int (i ^ j.toNat)
abbrev rdLt := dI0 fun i j => .bl (decide (i < j))
abbrev rdLe := dI0 fun i j => .bl (decide (i ≤ j))
abbrev rdGt := dI0 fun i j => .bl (decide (j < i))
abbrev rdGe := dI0 fun i j => .bl (decide (j ≤ i))
section
variable {X : Cx} {C : Cn} {W : WX} {a b c : Expr} {da db dc : DE} {pos : Pos}
theorem op_mulB : OpR X (binaryOp .Mult) (rI CMulB fun i j => .int (i * j)) := opI fun _ _ _ _ _ _ _ hc q => mul_int q (hc.elim CMul.ok CMulW.ok)
theorem mulB {i j : Int} (h : j.natAbs < 2 ^ 60) : CMulB i j := .inl (.inr (by omega))
theorem mulB' {i j : Int} (h : i.natAbs < 2 ^ 60) : CMulB i j := .inl (.inl (by omega))
theorem divB {i j : Int} (h0 : 0 < j) (h : j.natAbs < 2 ^ 60) : CDivW i j := wide_div h0 h (by decide) (by decide)
theorem e_add (ha : PE X a (upE C W da)) (hb : PE X b (upE C W db)) : PE X (.BinOp a .Add b pos) (upE C W (dOp rdAdd da db)) := de_op op_add (lk_I0 fun _ _ _ _ => .int _) ha hb
theorem e_sub (ha : PE X a (upE C W da)) (hb : PE X b (upE C W db)) : PE X (.BinOp a .Sub b pos) (upE C W (dOp rdSub da db)) := de_op op_sub (lk_I0 fun _ _ _ _ => .int _) ha hb
theorem e_mul (ha : PE X a (upE C W da)) (hb : PE X b (upE C W db)) : PE X (.BinOp a .Mult b pos) (upE C W (dOp rdMul da db)) := de_op op_mulB (lk_I fun _ _ _ _ => .int _) ha hb
theorem e_div (ha : PE X a (upE C W da)) (hb : PE X b (upE C W db)) : PE X (.BinOp a .FloorDiv b pos) (upE C W (dOp rdDiv da db)) := de_op op_fdivW (lk_I fun _ _ _ _ => .int _) ha hb
theorem e_mod (ha : PE X a (upE C W da)) (hb : PE X b (upE C W db)) : PE X (.BinOp a .Mod b pos) (upE C W (dOp rdMod da db)) := de_op op_mod (lk_I fun _ _ _ _ => .int _) ha hb
theorem e_pow (ha : PE X a (upE C W da)) (hb : PE X b (upE C W db)) : PE X (.BinOp a .Pow b pos) (upE C W (dOp rdPow da db)) := de_op op_pow (lk_I fun _ _ _ _ => .int _) ha hb
theorem e_neg (ha : PE X a (upE C W da)) : PE X (.UnaryOp .USub a pos) (upE C W (dUn (fun x _ k => ∃ i, x = .int i ∧ k (.int (-i))) da)) := de_un un_neg (by
  rintro x M k v th F H Q hs rx ⟨i, rfl, q⟩ kk
  cases rx
  exact ⟨i, rfl, kk _ _ F H q hs Le.rfl (.int _)⟩) ha
theorem e_lt (ha : PE X a (upE C W da)) (hb : PE X b (upE C W db)) : PE X (.Compare a [.Lt] [b] pos) (upE C W (dOp rdLt da db)) := de_cmp op_lt (lk_I0 fun _ _ _ _ => .bl _) ha hb
theorem e_le (ha : PE X a (upE C W da)) (hb : PE X b (upE C W db)) : PE X (.Compare a [.LtE] [b] pos) (upE C W (dOp rdLe da db)) := de_cmp op_le (lk_I0 fun _ _ _ _ => .bl _) ha hb
theorem e_gt (ha : PE X a (upE C W da)) (hb : PE X b (upE C W db)) : PE X (.Compare a [.Gt] [b] pos) (upE C W (dOp rdGt da db)) := de_cmp op_gt (lk_I0 fun _ _ _ _ => .bl _) ha hb
theorem e_ge (ha : PE X a (upE C W da)) (hb : PE X b (upE C W db)) : PE X (.Compare a [.GtE] [b] pos) (upE C W (dOp rdGe da db)) := de_cmp op_ge (lk_I0 fun _ _ _ _ => .bl _) ha hb
theorem t_lt (ha : PE X a (upE C W da)) (hb : PE X b (upE C W db)) : PT X (.Compare a [.Lt] [b] pos) (upT C W (dB (dOp rdLt da db))) := dt_cmp op_lt (lk_I0 fun _ _ _ _ => .bl _) ha hb
theorem t_le (ha : PE X a (upE C W da)) (hb : PE X b (upE C W db)) : PT X (.Compare a [.LtE] [b] pos) (upT C W (dB (dOp rdLe da db))) := dt_cmp op_le (lk_I0 fun _ _ _ _ => .bl _) ha hb
theorem t_gt (ha : PE X a (upE C W da)) (hb : PE X b (upE C W db)) : PT X (.Compare a [.Gt] [b] pos) (upT C W (dB (dOp rdGt da db))) := dt_cmp op_gt (lk_I0 fun _ _ _ _ => .bl _) ha hb
theorem t_ge (ha : PE X a (upE C W da)) (hb : PE X b (upE C W db)) : PT X (.Compare a [.GtE] [b] pos) (upT C W (dB (dOp rdGe da db))) := dt_cmp op_ge (lk_I0 fun _ _ _ _ => .bl _) ha hb
/-- a <= b <= c, a <= b < c -/
theorem e_lele (ha : PE X a (upE C W da)) (hb : PE X b (upE C W db)) (hc : PE X c (upE C W dc)) (hm : lastMarks [.LtE, .LtE] [b, c] = false := by with_unfolding_all rfl) : PE X (.Compare a [.LtE, .LtE] [b, c] pos) (upE C W (dCh rdLe rdLe da db dc)) :=
  de_ch op_le op_le (lk_I0 fun _ _ _ _ => .bl _) (lk_I0 fun _ _ _ _ => .bl _) ha hb hc hm
theorem t_lele (ha : PE X a (upE C W da)) (hb : PE X b (upE C W db)) (hc : PE X c (upE C W dc)) (hm : lastMarks [.LtE, .LtE] [b, c] = false := by with_unfolding_all rfl) : PT X (.Compare a [.LtE, .LtE] [b, c] pos) (upT C W (dB (dCh rdLe rdLe da db dc))) :=
  dt_ch op_le op_le (lk_I0 fun _ _ _ _ => .bl _) (lk_I0 fun _ _ _ _ => .bl _) ha hb hc hm
theorem e_lelt (ha : PE X a (upE C W da)) (hb : PE X b (upE C W db)) (hc : PE X c (upE C W dc)) (hm : lastMarks [.LtE, .Lt] [b, c] = false := by with_unfolding_all rfl) : PE X (.Compare a [.LtE, .Lt] [b, c] pos) (upE C W (dCh rdLe rdLt da db dc)) :=
  de_ch op_le op_lt (lk_I0 fun _ _ _ _ => .bl _) (lk_I0 fun _ _ _ _ => .bl _) ha hb hc hm
theorem t_lelt (ha : PE X a (upE C W da)) (hb : PE X b (upE C W db)) (hc : PE X c (upE C W dc)) (hm : lastMarks [.LtE, .Lt] [b, c] = false := by with_unfolding_all rfl) : PT X (.Compare a [.LtE, .Lt] [b, c] pos) (upT C W (dB (dCh rdLe rdLt da db dc))) :=
  dt_ch op_le op_lt (lk_I0 fun _ _ _ _ => .bl _) (lk_I0 fun _ _ _ _ => .bl _) ha hb hc hm
end

/-! ### is None -/
def D.isN : D → Bool
  | .non => true
  | _ => false
theorem Rep.isN {C : Cn} {th : List Addr} {F : Hp} {v : V} {x : D} (r : Rep C th F v x) : decide (v = .non) = x.isN := by
  cases r <;> simp [D.isN]
abbrev rdIs : D → D → MS → (D → Prop) → Prop := fun x y _ k => y = .non ∧ k (.bl x.isN)
abbrev rdNot : D → D → MS → (D → Prop) → Prop := fun x y _ k => y = .non ∧ k (.bl (!x.isN))
section
variable {X : Cx} {C : Cn} {W : WX} {a b c : Expr} {da db dc : DE} {pos : Pos}
theorem lk_is : Lk2 C (fun x y H Q => y = V.non ∧ Q (V.bl (decide (x = V.non))) H) rdIs := by
  rintro x y M k v w th F H Q hs rx ry ⟨rfl, q⟩ kk
  cases ry
  refine ⟨rfl, ?_⟩
  rw [rx.isN]
  exact kk _ _ F H q hs Le.rfl (.bl _)
theorem lk_isnot : Lk2 C (fun x y H Q => y = V.non ∧ Q (V.bl (!decide (x = V.non))) H) rdNot := by
  rintro x y M k v w th F H Q hs rx ry ⟨rfl, q⟩ kk
  cases ry
  refine ⟨rfl, ?_⟩
  rw [rx.isN]
  exact kk _ _ F H q hs Le.rfl (.bl _)
theorem e_is (ha : PE X a (upE C W da)) (hb : PE X b (upE C W db)) : PE X (.Compare a [.Is] [b] pos) (upE C W (dOp rdIs da db)) := de_cmp op_isN lk_is ha hb
theorem e_isnot (ha : PE X a (upE C W da)) (hb : PE X b (upE C W db)) : PE X (.Compare a [.IsNot] [b] pos) (upE C W (dOp rdNot da db)) := de_cmp op_notN lk_isnot ha hb
theorem t_is (ha : PE X a (upE C W da)) (hb : PE X b (upE C W db)) : PT X (.Compare a [.Is] [b] pos) (upT C W (dB (dOp rdIs da db))) := dt_cmp op_isN lk_is ha hb
theorem t_isnot (ha : PE X a (upE C W da)) (hb : PE X b (upE C W db)) : PT X (.Compare a [.IsNot] [b] pos) (upT C W (dB (dOp rdNot da db))) := dt_cmp op_notN lk_isnot ha hb
end

/-! ### == of data -/
mutual
def D.py : D → PyData
  | .bl b => .bool b
  | .int i => .int i
  | .str s => .str s
  | .lst xs => .list (D.pys xs)
  | .tup xs => .tuple (D.pys xs)
  | _ => .none
def D.pys : List D → List PyData
  | [] => []
  | x :: xs => D.py x :: D.pys xs
end
/-- data of depth below n -/
inductive Pl : Nat → D → Prop
  | non (n : Nat) : Pl n .non
  | bl (n : Nat) (b : Bool) : Pl n (.bl b)
  | int (n : Nat) (i : Int) : Pl n (.int i)
  | str (n : Nat) (s : Str) : PyData.strOk s = true → Pl n (.str s)
  | lst (n : Nat) (xs : List D) : (∀ x ∈ xs, Pl n x) → Pl (n + 1) (.lst xs)
  | tup (n : Nat) (xs : List D) : (∀ x ∈ xs, Pl n x) → Pl (n + 1) (.tup xs)
theorem Pl.shape : ∀ {n : Nat} {x : D}, Pl n x → x.py.canLay0 = true ∧ x.py.depth ≤ n := by
  have all : ∀ {n : Nat} {xs : List D}, (∀ x ∈ xs, x.py.canLay0 = true ∧ x.py.depth ≤ n) → PyData.canLayAll0 (D.pys xs) = true ∧ PyData.depthAll (D.pys xs) ≤ n := by
    intro n xs h
    induction xs with
    | nil => exact ⟨rfl, Nat.zero_le _⟩
    | cons x xs ih =>
      obtain ⟨a, b⟩ := h x List.mem_cons_self
      obtain ⟨c, d⟩ := ih fun y hy => h y (List.mem_cons_of_mem _ hy)
      refine ⟨?_, ?_⟩
      · simp only [D.pys, PyData.canLayAll0, a, c, Bool.and_self]
      · simp only [D.pys, PyData.depthAll]; omega
  intro n x h
  induction h with
  | non n => exact ⟨rfl, Nat.zero_le _⟩
  | bl n b => exact ⟨rfl, Nat.zero_le _⟩
  | int n i => exact ⟨rfl, Nat.zero_le _⟩
  | str n s hs => exact ⟨by simpa [D.py, PyData.canLay0] using hs, Nat.zero_le _⟩
  | lst n xs _ ih =>
    obtain ⟨a, b⟩ := all ih
    refine ⟨by simpa [D.py, PyData.canLay0] using a, ?_⟩
    simp only [D.py, PyData.depth]; omega
  | tup n xs _ ih =>
    obtain ⟨a, b⟩ := all ih
    refine ⟨by simpa [D.py, PyData.canLay0] using a, ?_⟩
    simp only [D.py, PyData.depth]; omega
section
variable {C : Cn} {th : List Addr} {F H : Hp}
theorem dpAll : ∀ {xs : List D} {vs : List V}, (∀ x ∈ xs, ∀ v, Rep C th F v x → Dp C.K H v x.py) → RepL C th F vs xs → DpAll C.K H vs (D.pys xs)
  | [], _, _, .nil => .nil
  | _ :: _, _, k, .cons h t => .cons (k _ List.mem_cons_self _ h) (dpAll (fun y hy => k y (List.mem_cons_of_mem _ hy)) t)
theorem Rep.dp (ex : Ex F H) {n : Nat} {x : D} (p : Pl n x) : ∀ v : V, Rep C th F v x → Dp C.K H v x.py := by
  induction p with
  | non n => intro v r; cases r; exact .non
  | bl n b => intro v r; cases r; exact .bl b
  | int n i => intro v r; cases r; exact .int i
  | str n s hs => intro v r; cases r; exact .str s
  | lst n xs _ ih =>
    intro v r
    cases r with
    | lst q r => exact .lst (SqL.of (ex _ _ q)) (dpAll ih r)
  | tup n xs _ ih =>
    intro v r
    cases r with
    | tup q r => exact .tup (SqT.of (ex _ _ q)) (dpAll ih r)
end
theorem Pl.shaped {n : Nat} {x : D} (p : Pl n x) (h : n ≤ 64 := by decide) : SeqAt.shaped x.py = true := by
  obtain ⟨a, b⟩ := p.shape
  unfold SeqAt.shaped
  rw [a, decide_eq_true (by omega)]
  rfl
/-- == as Python says it, over data; a list cell reads as its list -/
def cellD (M : MS) : D → D
  | .ptr j => match M[j]? with
    | some (.lst xs) => .lst xs
    | _ => .non
  | x => x
def eqD (x y : D) : Bool := PyData.eqv x.py y.py
def EqOk (M : MS) (x : D) : Prop := Pl 30 (cellD M x) ∧ ∀ j, x = .ptr j → ∃ xs, M[j]? = some (.lst xs)
abbrev rdEq : D → D → MS → (D → Prop) → Prop := fun x y M k => EqOk M x ∧ EqOk M y ∧ k (.bl (eqD (cellD M x) (cellD M y)))
abbrev rdNe : D → D → MS → (D → Prop) → Prop := fun x y M k => EqOk M x ∧ EqOk M y ∧ k (.bl (!eqD (cellD M x) (cellD M y)))
section
variable {C : Cn} {th : List Addr} {F H : Hp} {M : MS} {v : V} {x : D}
theorem eq_at (h : Hs C th F H M) (r : Rep C th F v x) (e : EqOk M x) : Dp C.K H v (cellD M x).py := by
  obtain ⟨e1, e2⟩ := e
  cases r with
  | @ptr a k q =>
    obtain ⟨xs, hm⟩ := e2 k rfl
    obtain ⟨n, vs, q2, r⟩ := h.cell _ _ _ hm q
    have ec : cellD M (.ptr k) = .lst xs := by simp [cellD, hm]
    rw [ec] at e1 ⊢
    have e3 : Pl 30 (.lst xs) := e1
    cases e3 with
    | lst m _ hx => exact .lst (SqL.of q2) (dpAll (fun x hx2 v r => Rep.dp h.ex (hx x hx2) v r) r)
  | non => exact Rep.dp (th := th) h.ex e1 _ .non
  | bl b => exact Rep.dp (th := th) h.ex e1 _ (.bl b)
  | int i => exact Rep.dp (th := th) h.ex e1 _ (.int i)
  | str i => exact Rep.dp (th := th) h.ex e1 _ (.str i)
  | lst a b => exact Rep.dp (th := th) h.ex e1 _ (.lst a b)
  | tup a b => exact Rep.dp (th := th) h.ex e1 _ (.tup a b)
  | gm a b => exact Rep.dp (th := th) h.ex e1 _ (.gm a b)
  | dct a => exact Rep.dp (th := th) h.ex e1 _ (.dct a)
  | scr a => exact Rep.dp (th := th) h.ex e1 _ (.scr a)
  | ty a => exact Rep.dp (th := th) h.ex e1 _ (.ty a)
  | gcl => exact Rep.dp (th := th) h.ex e1 _ .gcl
  | exc a b c => exact Rep.dp (th := th) h.ex e1 _ (.exc a b c)
  | exn a => exact Rep.dp (th := th) h.ex e1 _ (.exn a)
  | ecl a => exact Rep.dp (th := th) h.ex e1 _ (.ecl a)
theorem lk_eq : Lk2 C (rEqD C.K) rdEq := by
  rintro x y M k v w th F H Q hs rx ry ⟨e1, e2, q⟩ kk
  exact ⟨_, _, eq_at hs rx e1, eq_at hs ry e2, e1.1.shaped, e2.1.shaped, kk _ _ F H q hs Le.rfl (.bl _)⟩
theorem lk_ne : Lk2 C (rNeD C.K) rdNe := by
  rintro x y M k v w th F H Q hs rx ry ⟨e1, e2, q⟩ kk
  exact ⟨_, _, eq_at hs rx e1, eq_at hs ry e2, e1.1.shaped, e2.1.shaped, kk _ _ F H q hs Le.rfl (.bl _)⟩
end
section
variable {X : Cx} {C : Cn} {W : WX} {a b c : Expr} {da db dc : DE} {pos : Pos}
theorem e_eq (hu : X.A.units + 64 < cLine) (ha : PE X a (upE C W da)) (hb : PE X b (upE C W db)) (hK : X.K = C.K := by rfl) : PE X (.Compare a [.Eq] [b] pos) (upE C W (dOp rdEq da db)) := de_cmp (hK ▸ op_eqD hu) lk_eq ha hb
theorem e_ne (hu : X.A.units + 64 < cLine) (ha : PE X a (upE C W da)) (hb : PE X b (upE C W db)) (hK : X.K = C.K := by rfl) : PE X (.Compare a [.NotEq] [b] pos) (upE C W (dOp rdNe da db)) := de_cmp (hK ▸ op_neD hu) lk_ne ha hb
theorem t_eq (hu : X.A.units + 64 < cLine) (ha : PE X a (upE C W da)) (hb : PE X b (upE C W db)) (hK : X.K = C.K := by rfl) : PT X (.Compare a [.Eq] [b] pos) (upT C W (dB (dOp rdEq da db))) := dt_cmp (hK ▸ op_eqD hu) lk_eq ha hb
theorem t_ne (hu : X.A.units + 64 < cLine) (ha : PE X a (upE C W da)) (hb : PE X b (upE C W db)) (hK : X.K = C.K := by rfl) : PT X (.Compare a [.NotEq] [b] pos) (upT C W (dB (dOp rdNe da db))) := dt_cmp (hK ▸ op_neD hu) lk_ne ha hb
end

/-! ### lists and tuples -/
abbrev rdCat : D → D → MS → (D → Prop) → Prop := fun x y M k => ∃ xs ys, lstOf x M = some xs ∧ lstOf y M = some ys ∧ xs.length + ys.length ≤ sizeLine ∧ k (.lst (xs ++ ys))
abbrev rdCatT : D → D → MS → (D → Prop) → Prop := fun x y M k => ∃ xs ys, x = .tup xs ∧ y = .tup ys ∧ xs.length + ys.length ≤ sizeLine ∧ k (.tup (xs ++ ys))
abbrev rdRep : D → D → MS → (D → Prop) → Prop := fun x y M k => ∃ xs n, lstOf x M = some xs ∧ y = .int n ∧ 0 ≤ n ∧ n < 1000000 ∧ xs.length * n.toNat ≤ sizeLine ∧ k (.lst (List.replicate n.toNat xs).flatten)
abbrev rdRepT : D → D → MS → (D → Prop) → Prop := fun x y M k => ∃ xs n, x = .tup xs ∧ y = .int n ∧ xs ≠ [] ∧ 2 ≤ n ∧ n ≤ 1000 ∧ xs.length ≤ 1000 ∧ k (.tup (List.replicate n.toNat xs).flatten)
section
variable {C : Cn} {th : List Addr} {F H : Hp} {M : MS}
theorem lk_cat : Lk2 C rCat rdCat := by
  rintro x y M k v w th F H Q hs rx ry ⟨xs, ys, e1, e2, hz, q⟩ kk
  obtain ⟨a, vs, rfl, h1, r1⟩ := lst_at hs rx e1
  obtain ⟨b, ws, rfl, h2, r2⟩ := lst_at hs ry e2
  refine ⟨a, b, vs, ws, rfl, rfl, h1, h2, by rw [RepL.len r1, RepL.len r2]; exact hz, fun p hp => ?_⟩
  have l : Le th F th (upd F p (.lst (vs ++ ws))) := Le.nw (hs.ex.fr hp)
  exact kk _ _ _ _ q (hs.new hp) l (.lst upd_same ((r1.mono l).app (r2.mono l)))
theorem lk_catT : Lk2 C (rCatA C.K) rdCatT := by
  rintro x y M k v w th F H Q hs rx ry ⟨xs, ys, rfl, rfl, hz, q⟩ kk
  cases rx with
  | @tup a vs _ h1 r1 =>
    cases ry with
    | @tup b ws _ h2 r2 =>
      refine ⟨a, b, vs, ws, rfl, rfl, SqT.of (hs.ex _ _ h1), SqT.of (hs.ex _ _ h2), by rw [RepL.len r1, RepL.len r2]; exact hz, fun e => ?_, fun e1 e2 => ?_, fun e1 e2 p hp => ?_⟩
      · subst e
        cases r1
        exact kk _ _ F H q hs Le.rfl (.tup h2 r2)
      · subst e2
        cases r2
        rw [List.append_nil] at q
        exact kk _ _ F H q hs Le.rfl (.tup h1 r1)
      · have l : Le th F th (upd F p (.tup (vs ++ ws))) := Le.nw (hs.ex.fr hp)
        exact kk _ _ _ _ q (hs.new hp) l (.tup upd_same ((r1.mono l).app (r2.mono l)))
theorem lk_rep : Lk2 C rRep rdRep := by
  rintro x y M k v w th F H Q hs rx ry ⟨xs, n, e1, rfl, h0, h1, hz, q⟩ kk
  obtain ⟨a, vs, rfl, ha, r1⟩ := lst_at hs rx e1
  cases ry
  refine ⟨a, n, vs, rfl, rfl, ha, by omega, by omega, by rw [RepL.len r1]; exact hz, fun p hp => ?_⟩
  have l : Le th F th (upd F p (.lst (List.replicate n.toNat vs).flatten)) := Le.nw (hs.ex.fr hp)
  exact kk _ _ _ _ q (hs.new hp) l (.lst upd_same (RepL.rep (r1.mono l)))
theorem lk_repT : Lk2 C (rRepT C.K) rdRepT := by
  rintro x y M k v w th F H Q hs rx ry ⟨xs, n, rfl, rfl, hne, h0, h1, hz, q⟩ kk
  cases rx with
  | @tup a vs _ ha r1 =>
    cases ry
    refine ⟨a, n, vs, rfl, rfl, SqT.of (hs.ex _ _ ha), ?_, h0, h1, by rw [RepL.len r1]; exact hz, fun p hp => ?_⟩
    · intro e
      subst e
      cases r1
      exact hne rfl
    have l : Le th F th (upd F p (.tup (List.replicate n.toNat vs).flatten)) := Le.nw (hs.ex.fr hp)
    exact kk _ _ _ _ q (hs.new hp) l (.tup upd_same (RepL.rep (r1.mono l)))
end
section
variable {X : Cx} {C : Cn} {W : WX} {a b c : Expr} {da db dc : DE} {pos : Pos}
theorem e_cat (ha : PE X a (upE C W da)) (hb : PE X b (upE C W db)) : PE X (.BinOp a .Add b pos) (upE C W (dOp rdCat da db)) := de_op op_cat lk_cat ha hb
theorem e_catT (ha : PE X a (upE C W da)) (hb : PE X b (upE C W db)) (hK : X.K = C.K := by rfl) : PE X (.BinOp a .Add b pos) (upE C W (dOp rdCatT da db)) := de_op (hK ▸ op_catA) lk_catT ha hb
theorem e_rep (ha : PE X a (upE C W da)) (hb : PE X b (upE C W db)) : PE X (.BinOp a .Mult b pos) (upE C W (dOp rdRep da db)) := de_op op_rep lk_rep ha hb
theorem e_repT (ha : PE X a (upE C W da)) (hb : PE X b (upE C W db)) (hK : X.K = C.K := by rfl) : PE X (.BinOp a .Mult b pos) (upE C W (dOp rdRepT da db)) := de_op (hK ▸ op_repT) lk_repT ha hb
end

/-! ### items, slices -/
/-- xs[i], i of any sign -/
def atD (xs : List D) (i : Int) : Option D := (ixN xs.length i).bind fun j => xs[j]?
abbrev rdIx : D → D → MS → (D → Prop) → Prop := fun x y M k => ∃ xs i z, seqOf x M = some xs ∧ y = .int i ∧ atD xs i = some z ∧ k z
abbrev rdIxS : D → D → MS → (D → Prop) → Prop := fun x y _ k => ∃ s i c, x = .str s ∧ y = .int i ∧ s.length ≤ sizeLine ∧ atI s.cps.toList i = some c ∧ k (.str ⟨#[c]⟩)
def cutD (xs : List D) (lo hi : Option Int) : List D := (xs.drop (HT.sIx xs.length 0 lo)).take (HT.sIx xs.length xs.length hi - HT.sIx xs.length 0 lo)
abbrev rdSlL : D → Option Int → Option Int → MS → (D → Prop) → Prop := fun x lo hi M k => ∃ xs, lstOf x M = some xs ∧ k (.lst (cutD xs lo hi))
abbrev rdSlT : D → Option Int → Option Int → MS → (D → Prop) → Prop := fun x lo hi _ k => ∃ xs, x = .tup xs ∧ k (.tup (cutD xs lo hi))
section
variable {C : Cn} {th : List Addr} {F H : Hp} {M : MS}
theorem atD_V {vs : List V} {xs : List D} {i : Int} {z : D} (r : RepL C th F vs xs) (e : atD xs i = some z) : ∃ v, atI vs i = some v ∧ Rep C th F v z := by
  unfold atD at e
  unfold atI
  rw [RepL.len r]
  cases h : ixN xs.length i with
  | none => rw [h] at e; cases e
  | some j =>
    rw [h] at e
    exact r.get e
theorem lk_ix : Lk2 C (rIx C.K) rdIx := by
  rintro x y M k v w th F H Q hs rx ry ⟨xs, i, z, e1, rfl, e2, q⟩ kk
  obtain ⟨a, vs, rfl, h1, r1⟩ := seq_at hs rx e1
  cases ry
  obtain ⟨u, e3, ru⟩ := atD_V r1 e2
  rcases h1 with h1 | h1
  · exact .inl ⟨a, vs, i, u, rfl, rfl, SqL.of h1, e3, kk _ _ F H q hs Le.rfl ru⟩
  · exact .inr (.inl ⟨a, vs, i, u, rfl, rfl, SqT.of h1, e3, kk _ _ F H q hs Le.rfl ru⟩)
theorem lk_ixS : Lk2 C rIxS rdIxS := by
  rintro x y M k v w th F H Q hs rx ry ⟨s, i, c, rfl, rfl, hz, e, q⟩ kk
  cases rx
  cases ry
  exact ⟨s, i, c, rfl, rfl, hz, e, kk _ _ F H q hs Le.rfl (.str _)⟩
theorem RepL.cut' {vs : List V} {xs : List D} (lo hi : Option Int) (r : RepL C th F vs xs) : RepL C th F (cutV vs lo hi) (cutD xs lo hi) := by
  unfold cutV cutD
  rw [RepL.len r]
  exact (r.drop _).take _
theorem lk_slL : LkS C (rSlL C.K) rdSlL := by
  rintro x lo hi M k v th F H Q hs rx ⟨xs, e, q⟩ kk
  obtain ⟨a, vs, rfl, h1, r1⟩ := lst_at hs rx e
  refine ⟨a, vs, rfl, SqL.of h1, fun p hp => ?_⟩
  have l : Le th F th (upd F p (.lst (cutV vs lo hi))) := Le.nw (hs.ex.fr hp)
  exact kk _ _ _ _ q (hs.new hp) l (.lst upd_same ((r1.mono l).cut' lo hi))
theorem lk_slT : LkS C (rSlA C.K) rdSlT := by
  rintro x lo hi M k v th F H Q hs rx ⟨xs, rfl, q⟩ kk
  cases rx with
  | @tup a vs _ h1 r1 =>
    refine ⟨a, vs, rfl, SqT.of (hs.ex _ _ h1), fun e => ?_, fun _ p hp => ?_⟩
    · have e2 : cutD xs lo hi = xs := by
        have l := RepL.len r1
        unfold cutD
        rw [← l, e.1, e.2, List.drop_zero, Nat.sub_zero, l, List.take_length]
      rw [e2] at q
      exact kk _ _ F H q hs Le.rfl (.tup h1 r1)
    · have l : Le th F th (upd F p (.tup (cutV vs lo hi))) := Le.nw (hs.ex.fr hp)
      exact kk _ _ _ _ q (hs.new hp) l (.tup upd_same ((r1.mono l).cut' lo hi))
end
section
variable {X : Cx} {C : Cn} {W : WX} {a b c : Expr} {da db dc : DE} {pos p2 : Pos} {lo hi : Option Expr} {dl dh : DO}
theorem de_ix {rv : R2} {rd : D → D → MS → (D → Prop) → Prop} (ho : IxR X rv) (l : Lk2 C rv rd) (ha : PE X a (upE C W da)) (hb : PE X b (upE C W db)) (hs : PlainIx b := by exact fun _ _ => rfl) : PE X (.Subscript a b pos) (upE C W (dOp rd da db)) :=
  pe_imp (pe_ix ho ha hb hs) (op_up l)
theorem e_ix (ha : PE X a (upE C W da)) (hb : PE X b (upE C W db)) (hs : PlainIx b := by exact fun _ _ => rfl) (hK : X.K = C.K := by rfl) : PE X (.Subscript a b pos) (upE C W (dOp rdIx da db)) := de_ix (hK ▸ ix_seq) lk_ix ha hb hs
theorem e_ixS (ha : PE X a (upE C W da)) (hb : PE X b (upE C W db)) (hs : PlainIx b := by exact fun _ _ => rfl) : PE X (.Subscript a b pos) (upE C W (dOp rdIxS da db)) := de_ix ix_str lk_ixS ha hb hs
theorem do_none : PO X none (upO C W dNoPart) := po_imp po_none fun σ H Q h => by
  obtain ⟨th, F, g, M, X', P, p, h⟩ := h
  exact p.fin h rfl
theorem do_some (ha : PE X a (upE C W da)) : PO X (some a) (upO C W (dPart da)) := po_imp (po_some ha) fun σ H Q h => by
  obtain ⟨th, F, g, M, X', P, p, h⟩ := h
  refine p.bind h fun x v t1 F1 H1 M1 h1 rx l1 p1 => ?_
  obtain ⟨i, rfl, q⟩ := h1
  cases rx
  exact ⟨i, rfl, p1.fin q rfl⟩
theorem de_sl {rv : V → Option Int → Option Int → Hp → VK → Prop} {rd : D → Option Int → Option Int → MS → (D → Prop) → Prop} (hr : SlR X rv) (l : LkS C rv rd) (ha : PE X a (upE C W da)) (hl : PO X lo (upO C W dl)) (hu : PO X hi (upO C W dh)) :
    PE X (.Subscript a (.Slice lo hi none p2) pos) (upE C W (dSl rd da dl dh)) := pe_imp (pe_slice hr ha hl hu) fun σ H Q h => by
  obtain ⟨th, F, g, M, X', P, p, h⟩ := h
  refine p.bind h fun x v t1 F1 H1 M1 h1 rx l1 p1 => p1.bind h1 fun y w t2 F2 H2 M2 h2 ry l2 p2 => p2.bind h2 fun z u t3 F3 H3 M3 h3 rz l3 p3 => ?_
  cases ry
  cases rz
  exact l x y z M3 _ v t3 F3 H3 Q p3.at_.hs (rx.mono (l2.tr l3)) h3 p3.opk
theorem e_slL (ha : PE X a (upE C W da)) (hl : PO X lo (upO C W dl)) (hu : PO X hi (upO C W dh)) (hK : X.K = C.K := by rfl) : PE X (.Subscript a (.Slice lo hi none p2) pos) (upE C W (dSl rdSlL da dl dh)) := de_sl (hK ▸ sl_list) lk_slL ha hl hu
theorem e_slT (ha : PE X a (upE C W da)) (hl : PO X lo (upO C W dl)) (hu : PO X hi (upO C W dh)) (hK : X.K = C.K := by rfl) : PE X (.Subscript a (.Slice lo hi none p2) pos) (upE C W (dSl rdSlT da dl dh)) := de_sl (hK ▸ sl_tupA) lk_slT ha hl hu
end
end PD

/-! PD: built-ins, fields, calls, instances. -/
namespace PySem
open PySem.W
section
variable {prog : Program} {w : World} {A : Around} {E : Value → Shared → Prop} {s : Shared} {l : Addr} {xs : Array (Int × Tok)}
theorem pd_iterTup {Q : Value → Shared → Prop} (hl : s.heap.IsTuple l (intItems xs))
    (h : ∀ s₂ : Shared, s₂ = { s with heap := s.heap.push { cls := .type "tuple_iterator", data := .fields #[.ref l, .int 0 0] } } →
      (s₂.heap.IsTupleIter s.heap.objs.size l 0 ∧ s₂.heap.IsTuple l (intItems xs)) → (∀ b ∈ [s.heap.objs.size, l], b < s₂.heap.objs.size) → l ≠ s.heap.objs.size → Q (.ref s.heap.objs.size) s₂) :
    wpAny (model prog w) A (pyIter (.ref l)) Q E s := by
  have hlt : l < s.heap.objs.size := by obtain ⟨_, e, _⟩ := hl; exact Heap.lt_size e
  refine wpAny_pyIter_tuple hl (h _ rfl ⟨⟨_, Heap.get?_push_size _ rfl, rfl, rfl⟩, hl.at fun o e => Heap.get?_push_of_some _ e⟩ (fun b hb => ?_) (Nat.ne_of_lt hlt))
  show b < (s.heap.push _).objs.size
  rw [Heap.size_push]
  rcases List.mem_cons.mp hb with rfl | hb
  · exact Nat.lt_succ_self _
  · rcases List.mem_cons.mp hb with rfl | hb
    · exact Nat.lt_succ_of_lt hlt
    · cases hb
theorem pd_maxTup {Q : Value → Shared → Prop} (hh : A.handled = none) (hl : s.heap.IsTuple l (intItems xs)) (hne : 0 < xs.size)
    (h : ∀ v h' tk, (intItems xs)[argBest (fun i j => decide (numAt xs i > numAt xs j)) (xs.size - 1)]? = some v → (∀ b o, s.heap.get? b = some o → h'.get? b = some o) → Q v { s with heap := h', toks := tk }) :
    wpAny (model prog w) A (call (.builtin "max") [.ref l]) Q E s := by
  refine call_max_walk (pd_iterTup hl fun s₂ e st hfp hlI => ?_)
  subst e
  refine ⟨_, _, _, _, _, _, _, rfl, Walks.tuple (A := A.in1) hh _ l hlI (intItems xs), st, hfp, by simpa [intItems] using hne, CmpOf.ints_gt (numAt xs) (fun _ _ => intItems_at), fun v h' tk hP hk => ?_⟩
  exact h v h' tk (by simpa [intItems] using hP) (fun b o e => hk b o (fun m => absurd (Heap.lt_size e) (by rw [List.mem_singleton.mp m]; exact Nat.lt_irrefl _)) (Heap.get?_push_of_some _ e))
theorem pd_sumTup {Q : Value → Shared → Prop} (hh : A.handled = none) (hl : s.heap.IsTuple l (intItems xs))
    (h : ∀ h' tk t', (∀ b o, s.heap.get? b = some o → h'.get? b = some o) → Q (.int (preSum (numAt xs) xs.size) t') { s with heap := h', toks := tk }) :
    wpAny (model prog w) A (call (.builtin "sum") [.ref l]) Q E s := by
  refine call_sum_walkG (pd_iterTup hl fun s₂ e st hfp hlI => ?_)
  subst e
  refine ⟨_, _, _, _, _, _, numAt xs, rfl, Walks.tuple (A := A.in1) hh _ l hlI (intItems xs), st, hfp, (fun _ _ => intItems_at), fun h' tk t' hk => ?_⟩
  have := h h' tk t' (fun b o e => hk b o (fun m => absurd (Heap.lt_size e) (by rw [List.mem_singleton.mp m]; exact Nat.lt_irrefl _)) (Heap.get?_push_of_some _ e))
  simpa [intItems] using this
end
end PySem
namespace PD
open PySem PySem.Spec PyProof.Rows L2 PySem.W
section
variable {X : Cx}
def rSumT (K : PySem.W.Frag) : List V → Hp → VK → Prop := fun vs H Q => ∃ (a : Addr) (ns : List Int), vs = [V.ref a] ∧ SqT K H a (ns.map V.int) ∧ Q (.int ns.sum) H
theorem cr_sumT (hc : X.calm = true) : CallR X (.builtin "sum") (rSumT X.K) := by
  intro pins s σ H vs us Q I r h
  obtain ⟨a, ns, rfl, hs, q⟩ := h
  obtain ⟨its, rv, hl, _⟩ := I.tuple hs
  rw [Vals.ref1 r]
  have hi := rv.ints
  obtain ⟨xs, e⟩ := hi.allInts.items
  have hn : numsOf (intItems xs).toList = ns := by rw [← e]; exact hi.numsOf
  rw [nums_intItems] at hn
  rw [e] at hl
  refine PySem.pd_sumTup (I.ok.hd hc) hl fun h' tk t' hk => ?_
  refine ⟨.int _, H, I.kept hk, ⟨_, rfl⟩, ?_⟩
  rw [preSum_eq, List.take_of_length_le (by simp), hn]
  exact q
def rMaxT (K : PySem.W.Frag) : List V → Hp → VK → Prop := fun vs H Q => ∃ (a : Addr) (ns : List Int), vs = [V.ref a] ∧ SqT K H a (ns.map V.int) ∧ 0 < ns.length ∧ ∀ m, m ∈ ns → (∀ y, y ∈ ns → y ≤ m) → Q (.int m) H
theorem cr_maxT (hc : X.calm = true) : CallR X (.builtin "max") (rMaxT X.K) := by
  intro pins s σ H vs us Q I r h
  obtain ⟨a, ns, rfl, hs, hne, q⟩ := h
  obtain ⟨its, rv, hl, _⟩ := I.tuple hs
  rw [Vals.ref1 r]
  have hi := rv.ints
  obtain ⟨xs, e⟩ := hi.allInts.items
  have hn : numsOf (intItems xs).toList = ns := by rw [← e]; exact hi.numsOf
  rw [nums_intItems] at hn
  subst hn
  rw [e] at hl
  have hsz : 0 < xs.size := by simpa using hne
  refine PySem.pd_maxTup (I.ok.hd hc) hl hsz fun v h' tk hv hk => ?_
  obtain ⟨t, rfl⟩ := intItems_at hv
  obtain ⟨h1, h2⟩ := argBest_gt (numAt xs) (xs.size - 1)
  refine ⟨.int _, H, I.kept hk, ⟨_, rfl⟩, q _ ?_ fun a ha => ?_⟩
  · rw [numAt_eq]; exact PySem.getD_mem (by rw [List.length_map, Array.length_toList]; omega)
  · obtain ⟨j, hj, rfl⟩ := mem_getD ha
    rw [List.length_map, Array.length_toList] at hj
    rw [← numAt_eq]; exact h2 j (by omega)
end

/-! ### built-ins by data -/
def lmax : List Int → Int
  | [] => 0
  | x :: xs => xs.foldl (fun a b => if b > a then b else a) x
def lmin : List Int → Int
  | [] => 0
  | x :: xs => xs.foldl (fun a b => if b < a then b else a) x
theorem foldmax_mem : ∀ (xs : List Int) (x : Int), xs.foldl (fun a b => if b > a then b else a) x ∈ x :: xs
  | [], x => by simp
  | y :: ys, x => by
    rw [List.foldl_cons]
    have h := foldmax_mem ys (if y > x then y else x)
    rcases List.mem_cons.mp h with h | h
    · rw [h]; split <;> simp
    · exact List.mem_cons_of_mem _ (List.mem_cons_of_mem _ h)
theorem foldmax_le : ∀ (xs : List Int) (x : Int), ∀ y ∈ x :: xs, y ≤ xs.foldl (fun a b => if b > a then b else a) x
  | [], x, y, h => by simp at h; rw [h]; exact Int.le_refl _
  | z :: ys, x, y, h => by
    rw [List.foldl_cons]
    have k := foldmax_le ys (if z > x then z else x)
    have k0 := k _ List.mem_cons_self
    rcases List.mem_cons.mp h with rfl | h
    · exact Int.le_trans (by split <;> omega) k0
    · rcases List.mem_cons.mp h with rfl | h
      · exact Int.le_trans (by split <;> omega) k0
      · exact k y (List.mem_cons_of_mem _ h)
theorem foldmin_mem : ∀ (xs : List Int) (x : Int), xs.foldl (fun a b => if b < a then b else a) x ∈ x :: xs
  | [], x => by simp
  | y :: ys, x => by
    rw [List.foldl_cons]
    have h := foldmin_mem ys (if y < x then y else x)
    rcases List.mem_cons.mp h with h | h
    · rw [h]; split <;> simp
    · exact List.mem_cons_of_mem _ (List.mem_cons_of_mem _ h)
theorem foldmin_le : ∀ (xs : List Int) (x : Int), ∀ y ∈ x :: xs, xs.foldl (fun a b => if b < a then b else a) x ≤ y
  | [], x, y, h => by simp at h; rw [h]; exact Int.le_refl _
  | z :: ys, x, y, h => by
    rw [List.foldl_cons]
    have k := foldmin_le ys (if z < x then z else x)
    have k0 := k _ List.mem_cons_self
    rcases List.mem_cons.mp h with rfl | h
    · exact Int.le_trans k0 (by split <;> omega)
    · rcases List.mem_cons.mp h with rfl | h
      · exact Int.le_trans k0 (by split <;> omega)
      · exact k y (List.mem_cons_of_mem _ h)
theorem lmax_mem {l : List Int} (h : l ≠ []) : lmax l ∈ l := by
  cases l with
  | nil => exact absurd rfl h
  | cons x xs => exact foldmax_mem xs x
theorem le_lmax {l : List Int} {y : Int} (h : y ∈ l) : y ≤ lmax l := by
  cases l with
  | nil => cases h
  | cons x xs => exact foldmax_le xs x y h
theorem lmin_mem {l : List Int} (h : l ≠ []) : lmin l ∈ l := by
  cases l with
  | nil => exact absurd rfl h
  | cons x xs => exact foldmin_mem xs x
theorem lmin_le {l : List Int} {y : Int} (h : y ∈ l) : lmin l ≤ y := by
  cases l with
  | nil => cases h
  | cons x xs => exact foldmin_le xs x y h
theorem lmax_of {l : List Int} {m : Int} (h : m ∈ l) (k : ∀ y ∈ l, y ≤ m) : m = lmax l := by
  have a := le_lmax h
  have b := k _ (lmax_mem (fun e => by rw [e] at h; cases h))
  omega
theorem lmin_of {l : List Int} {m : Int} (h : m ∈ l) (k : ∀ y ∈ l, m ≤ y) : m = lmin l := by
  have a := lmin_le h
  have b := k _ (lmin_mem (fun e => by rw [e] at h; cases h))
  omega

abbrev RA := List D → MS → (D → Prop) → Prop
abbrev rdLen : RA := fun xs M k => ∃ x ys, xs = [x] ∧ seqOf x M = some ys ∧ k (.int (ys.length : Int))
abbrev rdLenS : RA := fun xs _ k => ∃ s, xs = [.str s] ∧ s.length ≤ sizeLine ∧ k (.int (s.length : Int))
abbrev rdAbs : RA := fun xs _ k => ∃ i, xs = [.int i] ∧ k (.int (if i < 0 then -i else i))
abbrev rdInt : RA := fun xs _ k => (∃ i, xs = [.int i] ∧ k (.int i)) ∨ ∃ b, xs = [.bl b] ∧ k (.int (if b then 1 else 0))
abbrev rdSum : RA := fun xs M k => ∃ x l, xs = [x] ∧ seqOf x M = some (iL l) ∧ k (.int l.sum)
abbrev rdMax : RA := fun xs M k => ∃ x l, xs = [x] ∧ seqOf x M = some (iL l) ∧ l ≠ [] ∧ k (.int (lmax l))
abbrev rdMin : RA := fun xs M k => ∃ x l, xs = [x] ∧ lstOf x M = some (iL l) ∧ l ≠ [] ∧ k (.int (lmin l))
abbrev rdMax2 : RA := fun xs _ k => ∃ i j, xs = [.int i, .int j] ∧ k (.int (if j > i then j else i))
abbrev rdAll : RA := fun xs M k => ∃ (x : D) (l : List Bool), xs = [x] ∧ lstOf x M = some (l.map D.bl) ∧ k (.bl (l.all id))
abbrev rdTup : RA := fun xs M k => ∃ x ys, xs = [x] ∧ seqOf x M = some ys ∧ k (.tup ys)
abbrev rdList : RA := fun xs M k => ∃ x ys, xs = [x] ∧ seqOf x M = some ys ∧ k (.lst ys)
section
variable {C : Cn} {th : List Addr} {F H : Hp} {M : MS}
theorem RepL.ofB : ∀ {l : List Bool} {vs : List V}, RepL C th F vs (l.map D.bl) → vs = l.map V.bl
  | [], _, .nil => rfl
  | i :: l, _, .cons h r => by
    cases h
    rw [RepL.ofB r]
    rfl
theorem lk_len : LkA C (fun xs H Q => ∃ p ys, xs = [V.ref p] ∧ (SqL C.K H p ys ∨ SqT C.K H p ys) ∧ Q (V.int ys.length) H) rdLen := by
  rintro xs M k vs th F H Q hs rx ⟨x, ys, rfl, e, q⟩ kk
  obtain ⟨v, rfl, r⟩ := rx.one'
  obtain ⟨a, ws, rfl, h1, r1⟩ := seq_at hs r e
  refine ⟨a, ws, rfl, h1.elim (fun z => .inl (SqL.of z)) (fun z => .inr (SqT.of z)), ?_⟩
  rw [RepL.len r1]
  exact kk _ _ F H q hs Le.rfl (.int _)
theorem lk_lenS : LkA C (fun xs H Q => ∃ z, xs = [V.str z] ∧ z.length ≤ sizeLine ∧ Q (V.int z.length) H) rdLenS := by
  rintro xs M k vs th F H Q hs rx ⟨x, rfl, e, q⟩ kk
  obtain ⟨v, rfl, r⟩ := rx.one'
  cases r
  exact ⟨x, rfl, e, kk _ _ F H q hs Le.rfl (.int _)⟩
theorem lk_abs : LkA C (fun xs H Q => ∃ i, xs = [V.int i] ∧ Q (V.int (if i < 0 then -i else i)) H) rdAbs := by
  rintro xs M k vs th F H Q hs rx ⟨x, rfl, q⟩ kk
  obtain ⟨v, rfl, r⟩ := rx.one'
  cases r
  exact ⟨x, rfl, kk _ _ F H q hs Le.rfl (.int _)⟩
theorem lk_int : LkA C (fun xs H Q => (∃ i, xs = [V.int i] ∧ Q (V.int i) H) ∨ ∃ k, xs = [V.bl k] ∧ Q (V.int (if k then 1 else 0)) H) rdInt := by
  rintro xs M k vs th F H Q hs rx (⟨x, rfl, q⟩ | ⟨x, rfl, q⟩) kk
  · obtain ⟨v, rfl, r⟩ := rx.one'
    cases r
    exact .inl ⟨x, rfl, kk _ _ F H q hs Le.rfl (.int _)⟩
  · obtain ⟨v, rfl, r⟩ := rx.one'
    cases r
    exact .inr ⟨x, rfl, kk _ _ F H q hs Le.rfl (.int _)⟩
theorem lk_sum : LkA C (fun xs H Q => rSum C.K xs H Q ∨ rSumT C.K xs H Q) rdSum := by
  rintro xs M k vs th F H Q hs rx ⟨x, l, rfl, e, q⟩ kk
  obtain ⟨v, rfl, r⟩ := rx.one'
  obtain ⟨a, ws, rfl, h1, r1⟩ := seq_at hs r e
  have e1 := r1.ofI
  subst e1
  rcases h1 with h1 | h1
  · exact .inl ⟨a, l, rfl, SqL.of h1, kk _ _ F H q hs Le.rfl (.int _)⟩
  · exact .inr ⟨a, l, rfl, SqT.of h1, kk _ _ F H q hs Le.rfl (.int _)⟩
theorem lk_max : LkA C (fun xs H Q => rMax C.K xs H Q ∨ rMaxT C.K xs H Q) rdMax := by
  rintro xs M k vs th F H Q hs rx ⟨x, l, rfl, e, hne, q⟩ kk
  obtain ⟨v, rfl, r⟩ := rx.one'
  obtain ⟨a, ws, rfl, h1, r1⟩ := seq_at hs r e
  have e1 := r1.ofI
  subst e1
  have fin : ∀ m, m ∈ l → (∀ y ∈ l, y ≤ m) → Q (.int m) H := fun m h2 h3 => by
    rw [lmax_of h2 h3]
    exact kk _ _ F H q hs Le.rfl (.int _)
  have hl : 0 < l.length := List.length_pos_iff.mpr hne
  rcases h1 with h1 | h1
  · exact .inl ⟨a, l, rfl, SqL.of h1, hl, fin⟩
  · exact .inr ⟨a, l, rfl, SqT.of h1, hl, fin⟩
theorem lk_min : LkA C (rMin C.K) rdMin := by
  rintro xs M k vs th F H Q hs rx ⟨x, l, rfl, e, hne, q⟩ kk
  obtain ⟨v, rfl, r⟩ := rx.one'
  obtain ⟨a, ws, rfl, h1, r1⟩ := lst_at hs r e
  have e1 := r1.ofI
  subst e1
  exact ⟨a, l, rfl, SqL.of h1, List.length_pos_iff.mpr hne, fun m h2 h3 => by
    rw [lmin_of h2 h3]
    exact kk _ _ F H q hs Le.rfl (.int _)⟩
theorem lk_max2 : LkA C (fun xs H Q => ∃ i j, xs = [V.int i, V.int j] ∧ Q (V.int (if j > i then j else i)) H) rdMax2 := by
  rintro xs M k vs th F H Q hs rx ⟨i, j, rfl, q⟩ kk
  obtain ⟨v, w, rfl, r, r2⟩ := rx.two'
  cases r
  cases r2
  exact ⟨i, j, rfl, kk _ _ F H q hs Le.rfl (.int _)⟩
theorem lk_all : LkA C (rAll C.K) rdAll := by
  rintro xs M k vs th F H Q hs rx ⟨x, l, rfl, e, q⟩ kk
  obtain ⟨v, rfl, r⟩ := rx.one'
  obtain ⟨a, ws, rfl, h1, r1⟩ := lst_at hs r e
  have e1 := r1.ofB
  subst e1
  exact ⟨a, l, rfl, SqL.of h1, kk _ _ F H q hs Le.rfl (.bl _)⟩
theorem lk_tup : LkA C (fun xs H Q => ∃ p ys, xs = [V.ref p] ∧ ((SqL C.K H p ys ∧ ∀ l, H l = none → Q (V.ref l) (upd H l (.tup ys))) ∨ (SqT C.K H p ys ∧ Q (V.ref p) H))) rdTup := by
  rintro xs M k vs th F H Q hs rx ⟨x, ys, rfl, e, q⟩ kk
  obtain ⟨v, rfl, r⟩ := rx.one'
  obtain ⟨a, ws, rfl, h1, r1⟩ := seq_at hs r e
  refine ⟨a, ws, rfl, ?_⟩
  rcases h1 with h1 | h1
  · refine .inl ⟨SqL.of h1, fun p hp => ?_⟩
    have l : Le th F th (upd F p (.tup ws)) := Le.nw (hs.ex.fr hp)
    exact kk _ _ _ _ q (hs.new hp) l (.tup upd_same (r1.mono l))
  · refine .inr ⟨SqT.of h1, ?_⟩
    cases r with
    | @tup a' vs' ds' h2 r2 =>
      cases e
      exact kk _ _ F H q hs Le.rfl (.tup h2 r2)
    | lst h2 r2 =>
      have := hs.ex _ _ h2
      rw [h1] at this
      cases this
    | ptr h2 =>
      unfold seqOf at e
      dsimp only at e
      split at e
      · rename_i ys' hm
        obtain ⟨_, vs, q2, _⟩ := hs.cell _ _ _ hm h2
        rw [h1] at q2
        cases q2
      · cases e
    | _ => cases e
theorem lk_list : LkA C (fun xs H Q => ∃ p ys, xs = [V.ref p] ∧ (SqL C.K H p ys ∨ SqT C.K H p ys) ∧ ∀ l, H l = none → Q (V.ref l) (upd H l (.lst ys))) rdList := by
  rintro xs M k vs th F H Q hs rx ⟨x, ys, rfl, e, q⟩ kk
  obtain ⟨v, rfl, r⟩ := rx.one'
  obtain ⟨a, ws, rfl, h1, r1⟩ := seq_at hs r e
  refine ⟨a, ws, rfl, h1.elim (fun z => .inl (SqL.of z)) (fun z => .inr (SqT.of z)), fun p hp => ?_⟩
  have l : Le th F th (upd F p (.lst ws)) := Le.nw (hs.ex.fr hp)
  exact kk _ _ _ _ q (hs.new hp) l (.lst upd_same (r1.mono l))
end
section
variable {X : Cx} {C : Cn} {W : WX} {a : Expr} {pos p : Pos} {es : List Expr} {ea : DA} {x : Str} {id T : String} {rv : List V → Hp → VK → Prop} {rd : RA}
theorem cb_up (l : LkA C rv rd) : ∀ σ H Q, upE C W (dCB rd ea) σ H Q → tCB rv (upA C W ea) σ H Q := fun σ H Q h => by
  obtain ⟨th, F, g, M, X, P, p, h⟩ := h
  exact p.bind h fun xs vs t1 F1 H1 M1 h1 rs l1 p1 => l xs M1 _ vs t1 F1 H1 Q p1.at_.hs rs h1 p1.opk
theorem de_cb (hc : CallR X (.builtin id) rv) (l : LkA C rv rd) (hm : X.mg x = none) (hv : bootBuiltins x = some (.builtin id)) (ha : PA X (a :: es) (upA C W ea)) (hg : Gl X x := by rfl) (hn : x ≠ "__name__" := by decide) (hdb : (x == ("__debug__" : Str)) = false := by decide)
    (he : starEach (a :: es) X.env = (false, eval a X.env) :: starEach es X.env := by rfl) (hpl : (backTo pos (starEach es X.env)).any (·.1) = false := by rfl) : PE X (.Call (.Name x p) (a :: es) [] pos) (upE C W (dCB rd ea)) :=
  pe_imp (pe_callB hc hg hm hv ha hn hdb he hpl) (cb_up l)
theorem de_ct (hc : CallR X (.type T) rv) (l : LkA C rv rd) (hm : X.mg x = none) (hv : bootBuiltins x = some (.type T)) (ha : PA X (a :: es) (upA C W ea)) (hg : Gl X x := by rfl) (hn : x ≠ "__name__" := by decide) (hdb : (x == ("__debug__" : Str)) = false := by decide)
    (he : starEach (a :: es) X.env = (false, eval a X.env) :: starEach es X.env := by rfl) (hpl : (backTo pos (starEach es X.env)).any (·.1) = false := by rfl) : PE X (.Call (.Name x p) (a :: es) [] pos) (upE C W (dCB rd ea)) :=
  pe_imp (pe_callTy hc hg hm hv ha hn hdb he hpl) (cb_up l)
variable (hm : X.mg x = none)
theorem b_len (hm : X.mg "len" = none) (ha : PA X [a] (upA C W ea)) (hK : X.K = C.K := by rfl) (hg : Gl X "len" := by rfl) (he : starEach [a] X.env = (false, eval a X.env) :: starEach [] X.env := by rfl) : PE X (.Call (.Name "len" p) [a] [] pos) (upE C W (dCB rdLen ea)) :=
  de_cb (hK ▸ call_len_seq) lk_len hm (by decide +kernel) ha hg (by decide) (by decide) he
theorem b_lenS (hm : X.mg "len" = none) (ha : PA X [a] (upA C W ea)) (hg : Gl X "len" := by rfl) (he : starEach [a] X.env = (false, eval a X.env) :: starEach [] X.env := by rfl) : PE X (.Call (.Name "len" p) [a] [] pos) (upE C W (dCB rdLenS ea)) :=
  de_cb call_len_str lk_lenS hm (by decide +kernel) ha hg (by decide) (by decide) he
theorem b_abs (hm : X.mg "abs" = none) (ha : PA X [a] (upA C W ea)) (hg : Gl X "abs" := by rfl) (he : starEach [a] X.env = (false, eval a X.env) :: starEach [] X.env := by rfl) : PE X (.Call (.Name "abs" p) [a] [] pos) (upE C W (dCB rdAbs ea)) :=
  de_cb call_abs lk_abs hm (by decide +kernel) ha hg (by decide) (by decide) he
theorem b_int (hm : X.mg "int" = none) (ha : PA X [a] (upA C W ea)) (hg : Gl X "int" := by rfl) (he : starEach [a] X.env = (false, eval a X.env) :: starEach [] X.env := by rfl) : PE X (.Call (.Name "int" p) [a] [] pos) (upE C W (dCB rdInt ea)) :=
  de_ct call_int1 lk_int hm (by decide +kernel) ha hg (by decide) (by decide) he
theorem b_sum (hc : X.calm = true) (hm : X.mg "sum" = none) (ha : PA X [a] (upA C W ea)) (hK : X.K = C.K := by rfl) (hg : Gl X "sum" := by rfl) (he : starEach [a] X.env = (false, eval a X.env) :: starEach [] X.env := by rfl) : PE X (.Call (.Name "sum" p) [a] [] pos) (upE C W (dCB rdSum ea)) :=
  de_cb (hK ▸ CallR.or (cr_sum hc) (cr_sumT hc)) lk_sum hm (by decide +kernel) ha hg (by decide) (by decide) he
theorem b_max (hc : X.calm = true) (hm : X.mg "max" = none) (ha : PA X [a] (upA C W ea)) (hK : X.K = C.K := by rfl) (hg : Gl X "max" := by rfl) (he : starEach [a] X.env = (false, eval a X.env) :: starEach [] X.env := by rfl) : PE X (.Call (.Name "max" p) [a] [] pos) (upE C W (dCB rdMax ea)) :=
  de_cb (hK ▸ CallR.or (cr_max hc) (cr_maxT hc)) lk_max hm (by decide +kernel) ha hg (by decide) (by decide) he
theorem b_min (hc : X.calm = true) (hm : X.mg "min" = none) (ha : PA X [a] (upA C W ea)) (hK : X.K = C.K := by rfl) (hg : Gl X "min" := by rfl) (he : starEach [a] X.env = (false, eval a X.env) :: starEach [] X.env := by rfl) : PE X (.Call (.Name "min" p) [a] [] pos) (upE C W (dCB rdMin ea)) :=
  de_cb (hK ▸ cr_min hc) lk_min hm (by decide +kernel) ha hg (by decide) (by decide) he
theorem b_max2 {b : Expr} (hc : X.calm = true) (hm : X.mg "max" = none) (ha : PA X [a, b] (upA C W ea)) (hg : Gl X "max" := by rfl) (he : starEach [a, b] X.env = (false, eval a X.env) :: starEach [b] X.env := by rfl) (hpl : (backTo pos (starEach [b] X.env)).any (·.1) = false := by rfl) : PE X (.Call (.Name "max" p) [a, b] [] pos) (upE C W (dCB rdMax2 ea)) :=
  de_cb (call_max2 hc) lk_max2 hm (by decide +kernel) ha hg (by decide) (by decide) he hpl
theorem b_all (hc : X.calm = true) (hm : X.mg "all" = none) (ha : PA X [a] (upA C W ea)) (hK : X.K = C.K := by rfl) (hg : Gl X "all" := by rfl) (he : starEach [a] X.env = (false, eval a X.env) :: starEach [] X.env := by rfl) : PE X (.Call (.Name "all" p) [a] [] pos) (upE C W (dCB rdAll ea)) :=
  de_cb (hK ▸ cr_all hc) lk_all hm (by decide +kernel) ha hg (by decide) (by decide) he
theorem b_tup (hm : X.mg "tuple" = none) (ha : PA X [a] (upA C W ea)) (hK : X.K = C.K := by rfl) (hg : Gl X "tuple" := by rfl) (he : starEach [a] X.env = (false, eval a X.env) :: starEach [] X.env := by rfl) : PE X (.Call (.Name "tuple" p) [a] [] pos) (upE C W (dCB rdTup ea)) :=
  de_ct (hK ▸ call_tuple_of) lk_tup hm (by decide +kernel) ha hg (by decide) (by decide) he
theorem b_list (hm : X.mg "list" = none) (ha : PA X [a] (upA C W ea)) (hK : X.K = C.K := by rfl) (hg : Gl X "list" := by rfl) (he : starEach [a] X.env = (false, eval a X.env) :: starEach [] X.env := by rfl) : PE X (.Call (.Name "list" p) [a] [] pos) (upE C W (dCB rdList ea)) :=
  de_ct (hK ▸ call_list_of) lk_list hm (by decide +kernel) ha hg (by decide) (by decide) he
end
end PD

/-! PD: statements, loops, comprehensions. -/
namespace PD
open PySem PySem.Spec PyProof.Rows L2

structure DN where
  nx : En → MS → Prop
  rt : D → MS → Prop
  bk : En → MS → Prop
  ct : En → MS → Prop
  ex : Exn → En → MS → Prop
abbrev DS := En → MS → DN → Prop

structure LkN (C : Cn) (W : WX) (De : Ends) (th : List Addr) (F : Hp) (N : DN) : Prop where
  nx : ∀ (g : En) (M : MS) (σ : L2.St) (th' : List Addr) (F' H' : Hp), N.nx g M → At C th' F' H' σ g M → Le th F th' F' → De.nx σ H'
  rt : ∀ (y : D) (M : MS) (v : V) (th' : List Addr) (F' H' : Hp), N.rt y M → Hs C th' F' H' M → Le th F th' F' → Rep C th' F' v y → De.rt v H'
  bk : ∀ (g : En) (M : MS) (σ : L2.St) (th' : List Addr) (F' H' : Hp), N.bk g M → At C th' F' H' σ g M → Le th F th' F' → De.bk σ H'
  ct : ∀ (g : En) (M : MS) (σ : L2.St) (th' : List Addr) (F' H' : Hp), N.ct g M → At C th' F' H' σ g M → Le th F th' F' → De.ct σ H'
  ex : ∀ (e : Exn) (g : En) (M : MS) (σ : L2.St) (th' : List Addr) (F' H' : Hp) (cls : Value) (dd : Option Addr), N.ex e g M → At C th' F' H' σ g M → Le th F th' F' → ExcAt C th' F' H' e cls dd → W cls dd σ H'
def upS (C : Cn) (W : WX) (d : DS) : TS := fun D σ H => ∃ th F g M N, At C th F H σ g M ∧ LkN C W D th F N ∧ d g M N
def upG (C : Cn) (d : D → En → (En → Prop) → Prop) : TG := fun v σ H Q => ∃ th F g M y P, At C th F H σ g M ∧ Rep C th F v y ∧ d y g P ∧ ∀ g' σ', P g' → Sl C th F σ' g' → Q σ' H
def upGs (C : Cn) (d : List D → En → (En → Prop) → Prop) : TGs := fun vs σ H Q => ∃ th F g M ys P, At C th F H σ g M ∧ RepL C th F vs ys ∧ d ys g P ∧ ∀ g' σ', P g' → Sl C th F σ' g' → Q σ' H
section
variable {C : Cn} {W : WX} {De : Ends} {th th' : List Addr} {F F' H H' : Hp} {N : DN} {σ : L2.St} {g : En} {M : MS}
theorem LkN.mono (k : LkN C W De th F N) (l : Le th F th' F') : LkN C W De th' F' N :=
  ⟨fun a b c d e f p q r => k.nx a b c d e f p q (l.tr r), fun a b c d e f p q r s => k.rt a b c d e f p q (l.tr r) s, fun a b c d e f p q r => k.bk a b c d e f p q (l.tr r), fun a b c d e f p q r => k.ct a b c d e f p q (l.tr r),
    fun a b c d e f h i j p q r s => k.ex a b c d e f h i j p q (l.tr r) s⟩
/-- an expression within a statement -/
theorem LkN.pk {V' α : Type} {rel : List Addr → Hp → V' → α → Prop} {Q : V' → Hp → Prop} {P : α → MS → Prop} (k : LkN C W De th F N) (a : At C th F H σ g M)
    (ok : ∀ (y : α) (M' : MS) (v : V') (th' : List Addr) (F' H' : Hp), P y M' → At C th' F' H' σ g M' → Le th F th' F' → rel th' F' v y → Q v H') : Pk C W rel σ Q th F H g M (fun e M' => N.ex e g M') P :=
  ⟨a, fun y M' v th' F' H' p h l r => ok y M' v th' F' H' p ⟨h, a.sl.mono l⟩ l r, fun e M' th' F' H' cls dd p h l x => k.ex e g M' σ th' F' H' cls dd p ⟨h, a.sl.mono l⟩ l x⟩
theorem Pk.mk_up {V' α : Type} {rel : List Addr → Hp → V' → α → Prop} {Q : V' → Hp → Prop} {P : α → MS → Prop} {X : EK} {d : En → MS → EK → (α → MS → Prop) → Prop} (p : Pk C W rel σ Q th F H g M X P) (h : d g M X P) : Up C W rel d σ H Q := ⟨th, F, g, M, X, P, p, h⟩
end

def sNx : DS := fun g M N => N.nx g M
def sSeq (a b : DS) : DS := fun g M N => a g M { N with nx := fun g' M' => b g' M' N }
def sDrop (d : DE) : DS := fun g M N => d g M (fun e M' => N.ex e g M') fun _ M' => N.nx g M'
def sRet (d : DE) : DS := fun g M N => d g M (fun e M' => N.ex e g M') fun y M' => N.rt y M'
def sRetN : DS := fun _ M N => N.rt .non M
def sIf (c : DT) (a b : DS) : DS := fun g M N => c g M (fun e M' => N.ex e g M') fun k M' => if k = true then a g M' N else b g M' N
def sBrk : DS := fun g M N => N.bk g M
def sCnt : DS := fun g M N => N.ct g M
def sAsg (d : DE) (t : D → En → (En → Prop) → Prop) : DS := fun g M N => d g M (fun e M' => N.ex e g M') fun y M' => t y g fun g' => N.nx g' M'
def gN (i : Nat) : D → En → (En → Prop) → Prop := fun y g k => k (g.set i (some y))
def gsNil : List D → En → (En → Prop) → Prop := fun ys g k => ys = [] ∧ k g
def gsCons (t : D → En → (En → Prop) → Prop) (u : List D → En → (En → Prop) → Prop) : List D → En → (En → Prop) → Prop := fun ys g k => ∃ y r, ys = y :: r ∧ t y g fun g' => u r g' k
def gT (n : Nat) (t : List D → En → (En → Prop) → Prop) : D → En → (En → Prop) → Prop := fun y g k => ∃ ys, y = .tup ys ∧ ys.length = n ∧ t ys g k
def sPar (i j : Nat) (d : DA) : DS := fun g M N => d g M (fun e M' => N.ex e g M') fun ys M' => ∃ y z, ys = [y, z] ∧ N.nx ((g.set i (some y)).set j (some z)) M'
def sAug (i : Nat) (r : D → D → MS → (D → Prop) → Prop) (d : DE) : DS := fun g M N => ∃ x, g[i]? = some (some x) ∧ d g M (fun e M' => N.ex e g M') fun y M' => r x y M' fun z => N.nx (g.set i (some z)) M'
def sWhile (c : DT) (b : DS) : DS := fun g M N => ∃ Inv : Nat → En → MS → Prop, (∃ m, Inv m g M) ∧ ∀ m g M, Inv m g M → c g M (fun e M' => N.ex e g M') fun k M' =>
  if k = true then b g M' { N with nx := fun g' M'' => ∃ m', m' < m ∧ Inv m' g' M'', ct := fun g' M'' => ∃ m', m' < m ∧ Inv m' g' M'', bk := N.nx } else N.nx g M'

section
variable {X : Cx} {C : Cn} {W : WX} {st : Stmt} {sts rest : List Stmt} {a b c e : Expr} {da db : DE} {ds dt : DS} {ta : DT} {pos : Pos} {es : List Expr} {ea : DA}
theorem ss_nil : PSs X [] (upS C W sNx) := pss_imp pss_nil fun D σ H h => by
  obtain ⟨th, F, g, M, N, a, k, h⟩ := h
  exact k.nx g M σ th F H h a Le.rfl
theorem ss_cons (h1 : PS X st (upS C W ds)) (h2 : PSs X rest (upS C W dt)) : PSs X (st :: rest) (upS C W (sSeq ds dt)) := pss_imp (pss_cons h1 h2) fun D σ H h => by
  obtain ⟨th, F, g, M, N, a, k, h⟩ := h
  refine ⟨th, F, g, M, { N with nx := fun g' M' => dt g' M' N }, a, ⟨fun g' M' σ' th' F' H' p q l => ⟨th', F', g', M', N, q, k.mono l, p⟩, k.rt, k.bk, k.ct, k.ex⟩, h⟩
theorem ss_one (h1 : PS X st (upS C W ds)) : PSs X [st] (upS C W ds) := pss_one h1
theorem s_pass : PS X (.Pass pos) (upS C W sNx) := ps_imp ps_pass fun D σ H h => by
  obtain ⟨th, F, g, M, N, a, k, h⟩ := h
  exact k.nx g M σ th F H h a Le.rfl
theorem s_expr (he : PE X e (upE C W da)) (hs : swapsWith e none pos.line X.env = pure false := by rfl) : PS X (.Expr e pos) (upS C W (sDrop da)) := ps_imp (ps_expr he hs) fun D σ H h => by
  obtain ⟨th, F, g, M, N, a, k, h⟩ := h
  exact (k.pk a fun y M' v th' F' H' p h l r => k.nx g M' σ th' F' H' p h l).mk_up h
theorem s_ret (he : PE X e (upE C W da)) : PS X (.Return (some e) pos) (upS C W (sRet da)) := ps_imp (ps_ret he) fun D σ H h => by
  obtain ⟨th, F, g, M, N, a, k, h⟩ := h
  exact (k.pk a fun y M' v th' F' H' p h l r => k.rt y M' v th' F' H' p h.hs l r).mk_up h
theorem s_retN : PS X (.Return none pos) (upS C W sRetN) := ps_imp ps_retN fun D σ H h => by
  obtain ⟨th, F, g, M, N, a, k, h⟩ := h
  exact k.rt _ M .non th F H h a.hs Le.rfl .non
theorem s_if {xs ys : List Stmt} (hc : PT X c (upT C W ta)) (h1 : PSs X xs (upS C W ds)) (h2 : PSs X ys (upS C W dt)) : PS X (.If c xs ys pos) (upS C W (sIf ta ds dt)) := ps_imp (ps_if hc h1 h2) fun D σ H h => by
  obtain ⟨th, F, g, M, N, a, k, h⟩ := h
  refine (k.pk (rel := rB) a fun y M' v th' F' H' p h l r => ?_).mk_up h
  cases r
  cases y with
  | true => exact ⟨th', F', g, M', N, h, k.mono l, p⟩
  | false => exact ⟨th', F', g, M', N, h, k.mono l, p⟩
theorem s_brk : PS X (.Break pos) (upS C W sBrk) := ps_imp ps_break fun D σ H h => by
  obtain ⟨th, F, g, M, N, a, k, h⟩ := h
  exact k.bk g M σ th F H h a Le.rfl
theorem s_cnt : PS X (.Continue pos) (upS C W sCnt) := ps_imp ps_continue fun D σ H h => by
  obtain ⟨th, F, g, M, N, a, k, h⟩ := h
  exact k.ct g M σ th F H h a Le.rfl
theorem g_name {i : Nat} {x : Str} (hN : X.N.Nodup) (hi : X.N[i]? = some x := by rfl) (hx : Loc X.env.scope x := by first | exact Or.inl rfl | exact Or.inr rfl) (hf : X.fn x = true ∨ X.env.scope.names.lookup x = some .local := by first | exact .inl rfl | exact .inr rfl) : PG X (.Name x pos) (upG C (gN i)) :=
  ⟨fun pins s σ H v u Q I r h => (pg_name hN hi hx hf).run pins s σ H v u Q I r (by
    obtain ⟨th, F, g, M, y, P, a, ry, q, k⟩ := h
    exact k _ _ q (a.sl.set i ry))⟩
theorem gs_nil : PGs X [] (upGs C gsNil) := ⟨fun pins s σ H vs us Q I r h => pgs_nil.run pins s σ H vs us Q I r (by
    obtain ⟨th, F, g, M, ys, P, a, ry, ⟨e, q⟩, k⟩ := h
    subst e
    exact ⟨ry.nil', k g σ q a.sl⟩)⟩
theorem gs_cons {t : D → En → (En → Prop) → Prop} {u : List D → En → (En → Prop) → Prop} (h1 : PG X e (upG C t)) (h2 : PGs X es (upGs C u)) (hs : (assignEach (e :: es) X.env).map (·.2) = assign e X.env :: (assignEach es X.env).map (·.2) := by rfl) : PGs X (e :: es) (upGs C (gsCons t u)) :=
  ⟨fun pins s σ H vs us Q I r h => (pgs_cons h1 h2 hs).run pins s σ H vs us Q I r (by
    obtain ⟨th, F, g, M, ys, P, a, ry, ⟨y, rs, e, q⟩, k⟩ := h
    subst e
    obtain ⟨v, ws, rfl, r1, r2⟩ := ry.cons'
    exact ⟨v, ws, rfl, th, F, g, M, y, _, a, r1, q, fun g' σ' q' s' => ⟨th, F, g', M, rs, P, ⟨a.hs, s'⟩, r2, q', k⟩⟩)⟩
theorem g_tup {n k : Nat} {u : List D → En → (En → Prop) → Prop} (hc : X.calm = true) (h : PGs X es (upGs C u)) (hn : (assignEach es X.env).length = n := by rfl) (hst : (assignEach es X.env).findIdx? (·.1) = none := by rfl) (hK : X.K = C.K := by rfl) : PG X (.Tuple es k pos) (upG C (gT n u)) :=
  ⟨fun pins s σ H v w Q I r h' => (pg_tup hc h hn hst).run pins s σ H v w Q I r (by
    obtain ⟨th, F, g, M, y, P, a, ry, ⟨ys, e, l, q⟩, k⟩ := h'
    subst e
    cases ry with
    | @tup ad vs _ hf rs => exact ⟨ad, vs, rfl, SqT.of (a.hs.ex _ _ hf), (RepL.len rs).trans l, th, F, g, M, ys, P, a, rs, q, k⟩)⟩
theorem s_set {i : Nat} {x : Str} {pos' : Pos} (hN : X.N.Nodup) (he : PE X e (upE C W da)) (hi : X.N[i]? = some x := by rfl) (hx : Loc X.env.scope x := by first | exact Or.inl rfl | exact Or.inr rfl) (hs : swapsWith e (some (.Name x pos')) pos.line X.env = pure false := by rfl)
    (hf : X.fn x = true ∨ X.env.scope.names.lookup x = some .local := by first | exact .inl rfl | exact .inr rfl) : PS X (.Assign [.Name x pos'] e pos) (upS C W (sAsg da (gN i))) := ps_imp (ps_set hN hi hx he hs hf) fun D σ H h => by
  obtain ⟨th, F, g, M, N, a, k, h⟩ := h
  exact (k.pk (rel := rD C) (P := fun y M' => N.nx (g.set i (some y)) M') a fun y M' v th' F' H' p h l r => k.nx _ M' _ th' F' H' p ⟨h.hs, h.sl.set i r⟩ l).mk_up h
theorem s_asg {tg : Expr} {t : D → En → (En → Prop) → Prop} (he : PE X e (upE C W da)) (hg : PG X tg (upG C t)) (hs : swapsWithSole [tg] e pos.line X.env = pure false := by rfl) (hw : swappedStores [tg] e X.env = pure none := by rfl)
    (h1 : (assignEach [tg] X.env).map (·.2) = [assign tg X.env] := by rfl) : PS X (.Assign [tg] e pos) (upS C W (sAsg da t)) := ps_imp (ps_asg he hg hs hw h1) fun D σ H h => by
  obtain ⟨th, F, g, M, N, a, k, h⟩ := h
  exact (k.pk a fun y M' v th' F' H' p h l r => ⟨th', F', g, M', y, _, h, r, p, fun g' σ' q s' => k.nx g' M' σ' th' F' H' q ⟨h.hs, s'⟩ l⟩).mk_up h
theorem s_par {i j : Nat} {x y : Str} {px py pt : Pos} {kt k2 : Nat} {pt2 : Pos} (hc : X.calm = true) (hN : X.N.Nodup) (ha : PA X [a, b] (upA C W ea)) (hi : X.N[i]? = some x := by rfl) (hj : X.N[j]? = some y := by rfl) (hij : i ≠ j := by decide)
    (hx : X.env.scope.names.lookup x = some .local := by rfl) (hy : X.env.scope.names.lookup y = some .local := by rfl)
    (hw : swappedStores [.Tuple [.Name x px, .Name y py] kt pt] (.Tuple [a, b] k2 pt2) X.env = pure (some [x, y]) := by rfl)
    (hs : swapsWithSole [.Tuple [.Name x px, .Name y py] kt pt] (.Tuple [a, b] k2 pt2) pos.line X.env = pure false := by rfl) :
    PS X (.Assign [.Tuple [.Name x px, .Name y py] kt pt] (.Tuple [a, b] k2 pt2) pos) (upS C W (sPar i j ea)) := ps_imp (ps_par hc hN hi hj hij hx hy ha hw hs) fun D σ H h => by
  obtain ⟨th, F, g, M, N, a, k, h⟩ := h
  refine (k.pk (rel := rL C) a fun ys M' v th' F' H' p h l r => ?_).mk_up h
  obtain ⟨y, z, e, q⟩ := p
  subst e
  obtain ⟨v, w, rfl, r1, r2⟩ := RepL.two' r
  exact ⟨v, w, rfl, k.nx _ M' _ th' F' H' q ⟨h.hs, (h.sl.set i r1).set j r2⟩ l⟩
theorem s_while {body : List Stmt} (hp : PassesOwn (model X.prog X.w) X.A X.env X.xe) (hc : PT X c (upT C W ta)) (hb : PSs X body (upS C W ds)) : PS X (.While c body [] pos) (upS C W (sWhile ta ds)) := ps_imp (ps_while hp hc hb) fun D σ H h => by
  obtain ⟨th, F, g, M, N, a, k, Inv, ⟨m0, i0⟩, turn⟩ := h
  refine ⟨fun m σ' H' => ∃ th' F' g' M', At C th' F' H' σ' g' M' ∧ Le th F th' F' ∧ Inv m g' M', ⟨m0, th, F, g, M, a, Le.rfl, i0⟩, ?_⟩
  rintro m σ1 H1 ⟨t1, F1, g1, M1, a1, l1, i1⟩
  refine ((k.mono l1).pk (rel := rB) a1 fun y M' v th' F' H' p h l r => ?_).mk_up (turn m g1 M1 i1)
  cases r
  cases y with
  | true =>
    refine ⟨fun σ2 H2 => ∃ m', m' < m ∧ ∃ th' F' g' M', At C th' F' H2 σ2 g' M' ∧ Le th F th' F' ∧ Inv m' g' M', fun σ2 H2 q => q, ?_⟩
    have k1 := k.mono (l1.tr l)
    exact ⟨th', F', g1, M', { N with nx := fun g' M'' => ∃ m', m' < m ∧ Inv m' g' M'', ct := fun g' M'' => ∃ m', m' < m ∧ Inv m' g' M'', bk := N.nx }, h, ⟨fun g2 M2 σ2 t2 F2 H2 q a2 l2 => (let ⟨m', hm, q⟩ := q; ⟨m', hm, t2, F2, g2, M2, a2, (l1.tr l).tr l2, q⟩), k1.rt, fun g2 M2 σ2 t2 F2 H2 q a2 l2 => k1.nx g2 M2 σ2 t2 F2 H2 q a2 l2,
      fun g2 M2 σ2 t2 F2 H2 q a2 l2 => (let ⟨m', hm, q⟩ := q; ⟨m', hm, t2, F2, g2, M2, a2, (l1.tr l).tr l2, q⟩), k1.ex⟩, p⟩
  | false => exact k.nx g1 M' σ1 th' F' H' p h (l1.tr l)
end

/-! ### what is walked -/
abbrev DIt := En → MS → EK → (List D → MS → Prop) → Prop
/-- J gives the items ys, whatever comes behind F -/
def Giv (C : Cn) (th : List Addr) (F : Hp) (J : It) (ys : List D) : Prop := ∃ (G : Hp → Prop) (Y : Nat → Hp → V → Hp → Prop), Walk J ys.length G Y ∧ (∀ H, Ex F H → G H) ∧
  ∀ (i : Nat) (x : V) (H H' : Hp) (th1 : List Addr) (F1 : Hp) (M1 : MS), i < ys.length → Y i H x H' → Hs C th1 F1 H M1 → Le th F th1 F1 → ∃ F2 d, Hs C th1 F2 H' M1 ∧ Le th1 F1 th1 F2 ∧ ys[i]? = some d ∧ Rep C th1 F2 x d
def upI (C : Cn) (W : WX) (d : DIt) : TI := fun σ H R => ∃ th F g M X P, At C th F H σ g M ∧ d g M X P ∧
  (∀ (ys : List D) (M' : MS) (th' : List Addr) (F' H' : Hp) (J : It), P ys M' → Hs C th' F' H' M' → Le th F th' F' → Giv C th' F' J ys → R J H') ∧
  ∀ (e : Exn) (M' : MS) (th' : List Addr) (F' H' : Hp) (cls : Value) (dd : Option Addr), X e M' → Hs C th' F' H' M' → Le th F th' F' → ExcAt C th' F' H' e cls dd → W cls dd σ H'
def iSeq (d : DE) : DIt := fun g M X k => d g M X fun x M1 => ∃ ys, (x = .lst ys ∨ x = .tup ys) ∧ k ys M1
def iTp (d : DE) : DIt := fun g M X k => d g M X fun x M1 => ∃ ys, x = .tup ys ∧ k ys M1
def iLs (d : DE) : DIt := fun g M X k => d g M X fun x M1 => ∃ ys, x = .lst ys ∧ k ys M1
def iSc (d : DE) : DIt := fun g M X k => d g M X fun x M1 => ∃ l, x = .scr l ∧ k (iL l) M1
def rngL (lo : Int) (n : Nat) : List Int := (List.range n).map fun (i : Nat) => lo + (i : Int)
def iR1 (d : DA) : DIt := fun g M X k => d g M X fun xs M1 => ∃ n, xs = [.int n] ∧ -(2 ^ 60) ≤ n ∧ n < 2 ^ 60 ∧ k (iL (rngL 0 n.toNat)) M1
def iR2 (d : DA) : DIt := fun g M X k => d g M X fun xs M1 => ∃ a b, xs = [.int a, .int b] ∧ (-(2 ^ 60) ≤ a ∧ a < 2 ^ 60 ∧ -(2 ^ 60) ≤ b ∧ b < 2 ^ 60) ∧ k (iL (rngL a (b - a).toNat)) M1
section
variable {C : Cn} {th : List Addr} {F : Hp}
theorem giv_at {J : It} {xs : List V} {ys : List D} {G : Hp → Prop} (w : Walk J xs.length G (YAt xs)) (hg : ∀ H, Ex F H → G H) (r : RepL C th F xs ys) : Giv C th F J ys := by
  refine ⟨G, YAt xs, (RepL.len r) ▸ w, hg, ?_⟩
  rintro i x H H' th1 F1 M1 hi ⟨rfl, e⟩ hs l
  obtain ⟨d, e2, rd⟩ := r.getv e
  exact ⟨F1, d, hs, Le.rfl, e2, rd.mono l⟩
theorem giv_rng {lo : Int} {n : Nat} : Giv C th F (Itr lo n) (iL (rngL lo n)) := by
  have e : (iL (rngL lo n)).length = n := by unfold iL rngL; rw [List.length_map, List.length_map, List.length_range]
  have w : Walk (Itr lo n) (iL (rngL lo n)).length (fun _ => True) (YFn fun i => .int (lo + i)) := by rw [e]; exact walk_range
  refine ⟨fun _ => True, _, w, fun _ _ => trivial, ?_⟩
  rintro i x H H' th1 F1 M1 hi ⟨rfl, rfl⟩ hs l
  rw [e] at hi
  refine ⟨F1, .int (lo + i), hs, Le.rfl, ?_, .int _⟩
  unfold iL rngL
  rw [List.getElem?_map, List.getElem?_map, List.getElem?_range hi]
  rfl
end
section
variable {X : Cx} {C : Cn} {W : WX} {a b tg : Expr} {da : DE} {ea : DA} {pos p : Pos}
theorem i_lst (ha : PE X a (upE C W da)) (hK : X.K = C.K := by rfl) : PI X tg a (upI C W (iLs da)) := ⟨fun pins s σ H R I h => (pi_list ha).run pins s σ H R I (by
  obtain ⟨th, F, g, M, X', P, at_, h, ok, ex⟩ := h
  refine ⟨th, F, g, M, X', _, ⟨at_, fun x M1 v t1 F1 H1 q hs l r => ?_, ex⟩, h⟩
  obtain ⟨ys, e, q⟩ := q
  subst e
  cases r with
  | @lst ad vs _ hf rs => exact ⟨ad, rfl, ⟨vs, SqL.of (hs.ex _ _ hf)⟩, ok ys M1 t1 F1 H1 _ q hs l (giv_at walk_list (fun H e => SqL.of (e _ _ hf)) rs)⟩)⟩
theorem i_tup (ha : PE X a (upE C W da)) (hK : X.K = C.K := by rfl) : PI X tg a (upI C W (iTp da)) := ⟨fun pins s σ H R I h => (pi_tup ha).run pins s σ H R I (by
  obtain ⟨th, F, g, M, X', P, at_, h, ok, ex⟩ := h
  refine ⟨th, F, g, M, X', _, ⟨at_, fun x M1 v t1 F1 H1 q hs l r => ?_, ex⟩, h⟩
  obtain ⟨ys, e, q⟩ := q
  subst e
  cases r with
  | @tup ad vs _ hf rs => exact ⟨ad, rfl, ⟨vs, SqT.of (hs.ex _ _ hf)⟩, ok ys M1 t1 F1 H1 _ q hs l (giv_at walk_tup (fun H e => SqT.of (e _ _ hf)) rs)⟩)⟩
theorem i_scr (ha : PE X a (upE C W da)) (hK : X.K = C.K := by rfl) : PI X tg a (upI C W (iSc da)) := ⟨fun pins s σ H R I h => (pi_list ha).run pins s σ H R I (by
  obtain ⟨th, F, g, M, X', P, at_, h, ok, ex⟩ := h
  refine ⟨th, F, g, M, X', _, ⟨at_, fun x M1 v t1 F1 H1 q hs l r => ?_, ex⟩, h⟩
  obtain ⟨ys, e, q⟩ := q
  subst e
  cases r with
  | @scr ad l2 hf => exact ⟨ad, rfl, ⟨_, hK ▸ hs.ex.sl hf⟩, ok _ M1 t1 F1 H1 _ q hs l (giv_at (G := fun H => SqL X.K H ad (ys.map V.int)) walk_list (fun H e => hK ▸ e.sl hf) (RepL.iL ys))⟩)⟩
theorem i_rng1 (hm : X.mg "range" = none) (ha : PA X [a] (upA C W ea)) (hg : Gl X "range" := by rfl) (hs : starEach [a] X.env = [(false, eval a X.env)] := by rfl) : PI X tg (.Call (.Name "range" p) [a] [] pos) (upI C W (iR1 ea)) := ⟨fun pins s σ H R I h => (pi_range1 hg hm ha hs).run pins s σ H R I (by
  obtain ⟨th, F, g, M, X', P, at_, h, ok, ex⟩ := h
  refine ⟨th, F, g, M, X', _, ⟨at_, fun xs M1 v t1 F1 H1 q hs l r => ?_, ex⟩, h⟩
  obtain ⟨n, e, h1, h2, q⟩ := q
  subst e
  obtain ⟨v0, e0, r0⟩ := RepL.one' r
  subst e0
  cases r0
  exact ⟨n, rfl, by omega, by omega, ok _ M1 t1 F1 H1 _ q hs l giv_rng⟩)⟩
theorem i_rng2 (hm : X.mg "range" = none) (ha : PA X [a, b] (upA C W ea)) (hg : Gl X "range" := by rfl) (hs : starEach [a, b] X.env = [(false, eval a X.env), (false, eval b X.env)] := by rfl) (hs2 : starEach [b] X.env = [(false, eval b X.env)] := by rfl) : PI X tg (.Call (.Name "range" p) [a, b] [] pos) (upI C W (iR2 ea)) := ⟨fun pins s σ H R I h => (pi_range2 hg hm ha hs hs2).run pins s σ H R I (by
  obtain ⟨th, F, g, M, X', P, at_, h, ok, ex⟩ := h
  refine ⟨th, F, g, M, X', _, ⟨at_, fun xs M1 v t1 F1 H1 q hs l r => ?_, ex⟩, h⟩
  obtain ⟨n, m, e, ⟨h1, h2, h3, h4⟩, q⟩ := q
  subst e
  obtain ⟨v, w, rfl, r, r2⟩ := RepL.two' r
  cases r
  cases r2
  exact ⟨n, m, rfl, ⟨by omega, by omega, by omega, by omega⟩, ok _ M1 t1 F1 H1 _ q hs l giv_rng⟩)⟩
end

/-! ### for -/
def sFor (di : DIt) (dg : D → En → (En → Prop) → Prop) (b : DS) : DS := fun g M N => di g M (fun e M' => N.ex e g M') fun ys M' => ∃ Inv : Nat → En → MS → Prop, Inv 0 g M' ∧
  (∀ (i : Nat) (y : D) (g1 : En) (M1 : MS), ys[i]? = some y → Inv i g1 M1 → dg y g1 fun g2 => b g2 M1 { N with nx := Inv (i + 1), ct := Inv (i + 1), bk := N.nx }) ∧ ∀ g1 M1, Inv ys.length g1 M1 → N.nx g1 M1
section
variable {X : Cx} {C : Cn} {W : WX} {tg iter : Expr} {di : DIt} {dg : D → En → (En → Prop) → Prop} {db : DS} {body : List Stmt} {pos : Pos}
theorem s_for (hp : PassesOwn (model X.prog X.w) X.A X.env X.xe) (hc : X.calm = true) (hi : PI X tg iter (upI C W di)) (hg : PG X tg (upG C dg)) (hb : PSs X body (upS C W db)) (hs : ∀ x, foldedSetIterable iter X.env x = pure x := by intro _; rfl) :
    PS X (.For tg iter body [] pos) (upS C W (sFor di dg db)) := ps_imp (ps_for hp hc hi hg hb hs) fun D σ H h => by
  obtain ⟨th, F, g, M, N, a, k, h⟩ := h
  refine ⟨th, F, g, M, _, _, a, h, fun ys M' t1 F1 H1 J q hs1 l1 giv => ?_, fun e M' t1 F1 H1 cls dd q hs1 l1 x => k.ex e g M' σ t1 F1 H1 cls dd q ⟨hs1, a.sl.mono l1⟩ l1 x⟩
  obtain ⟨Inv, i0, turn, done⟩ := q
  obtain ⟨G, Y, w, hG, hY⟩ := giv
  refine for_it w (fun i σ' H' => ∃ th' F' g' M', At C th' F' H' σ' g' M' ∧ Le t1 F1 th' F' ∧ Inv i g' M') ⟨t1, F1, g, M', ⟨hs1, a.sl.mono l1⟩, Le.rfl, i0⟩ (fun i σ' H' _ ⟨_, _, _, _, a2, l2, _⟩ => hG H' (l2.ex.tr a2.hs.ex)) ?_ ?_
  · rintro i x σ2 H2 H3 hi ⟨t2, F2, g2, M2, a2, l2, i2⟩ y
    obtain ⟨F3, d, hs3, l3, ed, rd⟩ := hY i x H2 H3 t2 F2 M2 hi y a2.hs l2
    have l4 := l2.tr l3
    refine ⟨t2, F3, g2, M2, d, _, ⟨hs3, a2.sl.mono l3⟩, rd, turn i d g2 M2 ed i2, fun g4 σ4 q4 s4 => ?_⟩
    have k4 := k.mono (l1.tr l4)
    exact ⟨t2, F3, g4, M2, { N with nx := Inv (i + 1), ct := Inv (i + 1), bk := N.nx }, ⟨hs3, s4⟩, ⟨fun g5 M5 σ5 t5 F5 H5 q5 a5 l5 => ⟨t5, F5, g5, M5, a5, l4.tr l5, q5⟩, k4.rt, k4.nx, fun g5 M5 σ5 t5 F5 H5 q5 a5 l5 => ⟨t5, F5, g5, M5, a5, l4.tr l5, q5⟩, k4.ex⟩, q4⟩
  · rintro σ2 H2 ⟨t2, F2, g2, M2, a2, l2, i2⟩
    exact k.nx g2 M2 σ2 t2 F2 H2 (done g2 M2 i2) a2 (l1.tr l2)
end
end PD

/-! PD: comprehensions, own lists, calls of defs. -/
namespace PD
open PySem PySem.Spec PyProof.Rows L2

/-! ### the last cell -/
section
variable {C : Cn} {th t0 : List Addr} {F H : Hp} {M : MS} {p : Addr}
theorem last_th {c : Cell} (h : Hs C th F H (M ++ [c])) : ∃ t0 p, th = t0 ++ [p] ∧ t0.length = M.length := by
  obtain ⟨t0, t1, e, l⟩ := Hs.drop h
  have l2 : th.length = M.length + 1 := by rw [h.len, List.length_append]; rfl
  rw [e, List.length_append, l] at l2
  cases t1 with
  | nil => simp at l2
  | cons p r =>
    cases r with
    | nil => exact ⟨t0, p, e, l⟩
    | cons q r => simp at l2
theorem RepF.cut : ∀ {gs : List (Str × V)} {fs : List (Str × D)}, (∀ d ∈ fs, Cln d.2) → RepF C th F gs fs → RepF C t0 F gs fs
  | [], [], _, _ => trivial
  | (_, _) :: _, (_, _) :: _, k, ⟨e, r1, r2⟩ => ⟨e, Rep.cut (k _ List.mem_cons_self) r1, RepF.cut (fun d hd => k d (List.mem_cons_of_mem _ hd)) r2⟩
  | [], _ :: _, _, h => h.elim
  | _ :: _, [], _, h => h.elim
theorem CellAt.cut {a : Addr} : ∀ {c : Cell}, (∀ xs, c = .lst xs → ∀ d ∈ xs, Cln d) → (∀ k fs, c = .ins k fs → ∀ d ∈ fs, Cln d.2) → CellAt C th F H a c → CellAt C t0 F H a c
  | .dead, _, _, h => h
  | .lst xs, k, _, ⟨n, vs, h, r⟩ => ⟨n, vs, h, RepL.cut (k xs rfl) r⟩
  | .ins c fs, _, k, ⟨n, dx, gs, h, r⟩ => ⟨n, dx, gs, h, RepF.cut (k c fs rfl) r⟩
  | .rng, _, _, h => h
  | .dic _ _, _, _, h => h
/-- a cell's content names only cells ahead of place n -/
inductive Bel (n : Nat) : D → Prop
  | cln {d : D} : Cln d → Bel n d
  | ptr {k : Nat} : k < n → Bel n (.ptr k)
  | lst {ds : List D} : (∀ d ∈ ds, Bel n d) → Bel n (.lst ds)
  | tup {ds : List D} : (∀ d ∈ ds, Bel n d) → Bel n (.tup ds)
end
section
variable {C : Cn} {th t0 : List Addr} {F H : Hp} {M : MS} {p : Addr}
theorem get_pre (k : Nat) (a : Addr) (e : t0[k]? = some a) : (t0 ++ [p])[k]? = some a := by
  rw [List.getElem?_append_left (List.getElem?_eq_some_iff.mp e).1]
  exact e
/-- a rep over t0 ++ [p] of a thing that doesn't name the last cell, by address -/
theorem Rep.back : ∀ {n : Nat} {v : V} {d : D}, Bel n d → n ≤ t0.length → Rep C (t0 ++ [p]) F v d → Rep C t0 F v d := by
  have all : ∀ {n : Nat} {ds : List D} {vs : List V}, (∀ d ∈ ds, ∀ v, Rep C (t0 ++ [p]) F v d → Rep C t0 F v d) → RepL C (t0 ++ [p]) F vs ds → RepL C t0 F vs ds := by
    intro n ds
    induction ds with
    | nil => intro vs _ r; rw [r.nil']; exact .nil
    | cons d ds ih =>
      intro vs k r
      obtain ⟨v, ws, rfl, h, t⟩ := r.cons'
      exact .cons (k d List.mem_cons_self v h) (ih (fun e he => k e (List.mem_cons_of_mem _ he)) t)
  intro n v d b hn
  induction b generalizing v with
  | cln c => exact fun r => Rep.cut c r
  | ptr hk =>
    intro r
    cases r with
    | ptr e =>
      rw [List.getElem?_append_left (by omega)] at e
      exact .ptr e
  | lst h ih =>
    intro r
    cases r with
    | lst q r => exact .lst q (all (n := n) (fun d hd v => ih d hd (v := v)) r)
  | tup h ih =>
    intro r
    cases r with
    | tup q r => exact .tup q (all (n := n) (fun d hd v => ih d hd (v := v)) r)
end
/-- the cells name only clean things -/
def ClnC : Cell → Prop
  | .lst xs => ∀ d ∈ xs, Cln d
  | .ins _ fs => ∀ d ∈ fs, Cln d.2
  | _ => True
section
variable {C : Cn} {th t0 : List Addr} {F H : Hp} {M : MS} {p : Addr}
theorem CellAt.cutC {a : Addr} {c : Cell} (k : ClnC c) (h : CellAt C th F H a c) : CellAt C t0 F H a c :=
  h.cut (fun xs e => by subst e; exact k) fun _ fs e => by subst e; exact k
/-- the last cells are forgotten; the others name no cell -/
theorem Hs.pop {L : MS} (h : Hs C th F H (M ++ L)) (k : ∀ c ∈ M, ClnC c) : Hs C (th.take M.length) F H M := by
  have hl : (th.take M.length).length = M.length := by
    rw [List.length_take, h.len, List.length_append]; omega
  refine ⟨h.ex, hl, List.Nodup.sublist (List.take_sublist _ _) h.nd, fun j c a e1 e2 => ?_⟩
  have hj : j < M.length := (List.getElem?_eq_some_iff.mp e1).1
  rw [List.getElem?_take_of_lt hj] at e2
  exact (h.cell j c a (by rw [List.getElem?_append_left hj]; exact e1) e2).cutC (k c (List.mem_of_getElem? e1))
theorem le_take {F0 : Hp} {tb : List Addr} {n : Nat} (l : Le tb F0 th F) (hn : tb.length ≤ n) : Le tb F0 (th.take n) F :=
  ⟨l.ex, fun k a e => by
    have hk : k < tb.length := (List.getElem?_eq_some_iff.mp e).1
    rw [List.getElem?_take_of_lt (by omega)]
    exact l.pre k a e⟩
/-- the last cell is frozen and forgotten -/
theorem Hs.popFreeze {c : Cell} {o : HO} (h : Hs C th F H (M ++ [c])) (k : ∀ c ∈ M, ClnC c) (e : th[M.length]? = some p) (hn : F p = none) (hp : H p = some o) : Hs C (th.take M.length) (upd F p o) H M := by
  have h1 := h.freeze e hn hp
  have e2 : (M ++ [c]).set M.length .dead = M ++ [.dead] := by
    rw [List.set_append_right _ _ (Nat.le_refl _), Nat.sub_self]
    rfl
  rw [e2] at h1
  exact h1.pop k
end

/-! ### comprehensions -/
def wipeD (g : En) : List Nat → En
  | [] => g
  | v :: vs => (wipeD g vs).set v none
theorem Sl.wipe {C : Cn} {th : List Addr} {F : Hp} {σ : L2.St} {g : En} (h : Sl C th F σ g) : ∀ vs : List Nat, Sl C th F (L2.wipe σ vs) (wipeD g vs)
  | [] => h
  | v :: vs => (h.wipe vs).forget v none
theorem wipe_nmem : ∀ (vs : List Nat) (τ : L2.St) (i : Nat) (x : Option V), i ∉ vs → L2.wipe (τ.set i x) vs = (L2.wipe τ vs).set i x := by
  intro vs
  induction vs with
  | nil => intros; rfl
  | cons v vs ih =>
    intro τ i x h
    show (L2.wipe (τ.set i x) vs).set v none = ((L2.wipe τ vs).set v none).set i x
    rw [ih τ i x fun e => h (List.mem_cons_of_mem _ e)]
    exact List.set_comm _ _ fun e => h (by rw [e]; exact List.mem_cons_self)
theorem wipe_mem : ∀ (vs : List Nat) (τ : L2.St) (i : Nat) (x : Option V), i ∈ vs → L2.wipe (τ.set i x) vs = L2.wipe τ vs := by
  intro vs
  induction vs with
  | nil => intro _ _ _ h; cases h
  | cons v vs ih =>
    intro τ i x h
    show (L2.wipe (τ.set i x) vs).set v none = (L2.wipe τ vs).set v none
    by_cases hi : i ∈ vs
    · rw [ih τ i x hi]
    · have e : i = v := by
        rcases List.mem_cons.mp h with e | e
        · exact e
        · exact absurd e hi
      subst e
      rw [wipe_nmem vs τ i x hi, List.set_set]
theorem wipe_two : ∀ (vs : List Nat) (τ : L2.St), L2.wipe (L2.wipe τ vs) vs = L2.wipe τ vs := by
  intro vs
  induction vs with
  | nil => intros; rfl
  | cons v vs ih =>
    intro τ
    show (L2.wipe ((L2.wipe τ vs).set v none) vs).set v none = (L2.wipe τ vs).set v none
    by_cases hv : v ∈ vs
    · rw [wipe_mem vs _ v none hv, ih]
    · rw [wipe_nmem vs _ v none hv, ih, List.set_set]
theorem wipe_set {σ : L2.St} {i : Nat} {x : Option V} {vs : List Nat} (h : i ∈ vs) : L2.wipe ((L2.wipe σ vs).set i x) vs = L2.wipe σ vs := by
  rw [wipe_mem vs _ i x h, wipe_two]
def dYes : DT := fun _ M _ k => k true M
abbrev X0 : EK := fun _ _ => False
abbrev W0 : WX := fun _ _ _ _ => False
/-- [.. for .. in .. if ..]; vs: its own names. While it runs its list is the last cell -/
def dLc (di : DIt) (dg : D → En → (En → Prop) → Prop) (dt : DT) (de : DE) (vs : List Nat) : DE := fun g M X k => di g M X fun ys M' => (∀ c ∈ M', ClnC c) ∧ ys.length < sizeLine ∧ ∃ Inv : Nat → List D → Prop, Inv 0 [] ∧
  (∀ (i : Nat) (y : D) (acc : List D), ys[i]? = some y → Inv i acc → dg y (wipeD g vs) fun g2 => dt g2 (M' ++ [.lst acc]) X0 fun b M2 => M2 = M' ++ [.lst acc] ∧
    if b = true then de g2 (M' ++ [.lst acc]) X0 fun z M3 => M3 = M' ++ [.lst acc] ∧ Cln z ∧ Inv (i + 1) (acc ++ [z]) else Inv (i + 1) acc) ∧
  ∀ acc, Inv ys.length acc → k (.lst acc) M'
section
variable {X : Cx} {C : Cn} {W : WX}
/-- the reading of a comprehension's target: what it does to the slots, to the data -/
structure Tgt (C : Cn) (vs : List Nat) (g : TG) (dg : D → En → (En → Prop) → Prop) : Prop where
  run : ∀ (th : List Addr) (F H : Hp) (M : MS) (v : V) (y : D) (σ : L2.St) (e : En) (P : En → Prop) (Q : L2.St → Hp → Prop), Hs C th F H M → Rep C th F v y → Sl C th F (L2.wipe σ vs) e → dg y e P →
    (∀ e' σ', P e' → Sl C th F σ' e' → L2.wipe σ' vs = L2.wipe σ vs → Q σ' H) → g v (L2.wipe σ vs) H Q
theorem tgt_name {vs : List Nat} {i : Nat} (h : i ∈ vs) : Tgt C vs (gName i) (gN i) :=
  ⟨fun th F H M v y σ e P Q hs r sl p k => k _ _ p (sl.set i r) (wipe_set h)⟩
theorem tgt_two {vs : List Nat} {i j : Nat} (hi : i ∈ vs) (hj : j ∈ vs) : Tgt C vs (gTup C.K 2 (gCons (gName i) (gCons (gName j) gNil))) (gT 2 (gsCons (gN i) (gsCons (gN j) gsNil))) := by
  refine ⟨fun th F H M v y σ e P Q hs r sl p k => ?_⟩
  obtain ⟨ys, e1, l, y1, r1, e2, y2, r2, e3, e4, p⟩ := p
  subst e1 e2 e3 e4
  cases r with
  | @tup a vs' _ hf rs =>
    obtain ⟨v1, v2, rfl, ra, rb⟩ := rs.two'
    refine ⟨a, [v1, v2], rfl, SqT.of (hs.ex _ _ hf), rfl, v1, [v2], rfl, v2, [], rfl, rfl, ?_⟩
    refine k _ _ p ((sl.set i ra).set j rb) ?_
    rw [wipe_mem vs _ j _ hj, wipe_set hi]
theorem lc_up {g : TG} {di : DIt} {dg : D → En → (En → Prop) → Prop} {dt : DT} {de : DE} {vs : List Nat} (tg : Tgt C vs g dg) : ∀ σ H Q, upE C W (dLc di dg dt de vs) σ H Q → tLc (upI C W di) g (upT C W0 dt) (upE C W0 de) vs σ H Q := fun σ H Q h => by
  obtain ⟨th, F, en, M, X', P, p, h⟩ := h
  refine ⟨th, F, en, M, X', _, p.at_, h, fun ys M' t1 F1 H1 J q hs1 l1 giv => ?_, p.ex⟩
  obtain ⟨hcl, hlen, Inv, i0, turn, done⟩ := q
  obtain ⟨G, Y, w, hG, hY⟩ := giv
  intro Dl hD
  have lp : Le t1 F1 (t1 ++ [Dl]) F1 := Le.push
  have atl : (t1 ++ [Dl])[M'.length]? = some Dl := by
    rw [List.getElem?_append_right (by rw [hs1.len]; exact Nat.le_refl _), hs1.len, Nat.sub_self]
    rfl
  have setl : ∀ (c c' : Cell), (M' ++ [c]).set M'.length c' = M' ++ [c'] := fun c c' => by
    rw [List.set_append_right _ _ (Nat.le_refl _), Nat.sub_self]
    rfl
  have getl : ∀ (c : Cell), (M' ++ [c])[M'.length]? = some c := fun c => by
    rw [List.getElem?_append_right (Nat.le_refl _), Nat.sub_self]
    rfl
  refine lc_it w (fun i H' => ∃ th' F' acc, Hs C th' F' H' (M' ++ [.lst acc]) ∧ Le (t1 ++ [Dl]) F1 th' F' ∧ Inv i acc ∧ (∀ z ∈ acc, Cln z) ∧ acc.length ≤ i)
    ⟨t1 ++ [Dl], F1, [], hs1.push (c := .lst []) hD ⟨hs1.ex.fr hD, [], upd_same, .nil⟩, Le.rfl, i0, fun z hz => absurd hz List.not_mem_nil, Nat.le_refl _⟩ (fun i H' _ ⟨_, _, _, a2, l2, _⟩ => hG H' (l2.ex.tr a2.ex)) ?_ ?_
  · rintro i x H2 H3 hi ⟨t2, F2, acc, a2, l2, i2, c2, n2⟩ y
    obtain ⟨F3, d, hs3, l3, ed, rd⟩ := hY i x H2 H3 t2 F2 _ hi y a2 (lp.tr l2)
    have l4 := l2.tr l3
    refine tg.run t2 F3 H3 _ x d σ (wipeD en vs) _ _ hs3 rd (((p.at_.sl.mono l1).mono (lp.tr l4)).wipe vs) (turn i d acc ed i2) fun e' σ' q4 s4 ws => ⟨ws, ?_⟩
    refine ⟨t2, F3, e', _, X0, _, ⟨⟨hs3, s4⟩, fun b M2 v t5 F5 H5 q5 h5 l5 r5 => ?_, fun _ _ _ _ _ _ _ z => z.elim⟩, q4⟩
    cases r5
    obtain ⟨eM, q5⟩ := q5
    subst eM
    cases b with
    | false => exact ⟨t5, F5, acc, h5, l4.tr l5, q5, c2, Nat.le_succ_of_le n2⟩
    | true =>
      refine ⟨t5, F5, e', _, X0, _, ⟨⟨h5, s4.mono l5⟩, fun z M6 v t6 F6 H6 q6 h6 l6 r6 => ?_, fun _ _ _ _ _ _ _ z => z.elim⟩, q5⟩
      obtain ⟨eM, cz, q6⟩ := q6
      subst eM
      have l7 := (l4.tr l5).tr l6
      have et := l7.pre _ _ atl
      obtain ⟨nF, vs6, hv, rv⟩ := h6.cell _ _ _ (getl (.lst acc)) et
      refine ⟨vs6, hv, ?_, t6, F6, acc ++ [z], ?_, l7, q6, ?_, ?_⟩
      · rw [RepL.len rv]; omega
      · rw [← setl (.lst acc)]
        exact h6.put et nF ⟨nF, _, upd_same, rv.app (.one r6)⟩
      · intro u hu
        rcases List.mem_append.mp hu with hu | hu
        · exact c2 u hu
        · rw [List.mem_singleton.mp hu]; exact cz
      · rw [List.length_append, List.length_singleton]; omega
  · rintro H2 ⟨t2, F2, acc, a2, l2, i2, c2, n2⟩
    have et := l2.pre _ _ atl
    obtain ⟨nF, vs2, hv, rv⟩ := a2.cell _ _ _ (getl (.lst acc)) et
    have hs5 := a2.popFreeze hcl et nF hv
    have l6 : Le (t2.take M'.length) F2 (t2.take M'.length) (upd F2 Dl (.lst vs2)) := Le.nw nF
    refine p.ok (.lst acc) M' (.ref Dl) _ _ H2 (done acc i2) hs5 (l1.tr ((le_take (lp.tr l2) (by rw [hs1.len]; exact Nat.le_refl _)).tr l6)) ?_
    exact .lst upd_same (RepL.mono l6 (RepL.cut c2 rv))
theorem de_lc {elt tgx iter : Expr} {ifs : List Expr} {scope : Scope} {own : List (Str × Nat)} {pos : Pos} {g : TG} {di : DIt} {dg : D → En → (En → Prop) → Prop} {dt : DT} {de : DE} (hc : X.calm = true) (hN : X.N.Nodup) (tg : Tgt C (own.map (·.2)) g dg) (hi : PI X tgx iter (upI C W di)) (ok : BlkOk X.N X.env.scope scope own)
    (hg : ∀ (s : Shared) (H : Hp) (Ca : Addr) (cl : List (Str × Addr)) (fp : List Addr), PG (X.blk s H scope (compEnvC scope cl Ca X.env) fp) tgx g)
    (ht : ∀ (s : Shared) (H : Hp) (Ca : Addr) (cl : List (Str × Addr)) (fp : List Addr), PTs (X.blk s H scope (compEnvC scope cl Ca X.env) fp) ifs (upT C W0 dt))
    (he : ∀ (s : Shared) (H : Hp) (Ca : Addr) (cl : List (Str × Addr)) (fp : List Addr), PE (X.blk s H scope (compEnvC scope cl Ca X.env) fp) elt (upE C W0 de)) (hs : ∀ x, foldedSetIterable iter X.env x = pure x := by intro _; rfl) :
    PE X (.ListComp elt [⟨tgx, iter, ifs, 0⟩] scope pos) (upE C W (dLc di dg dt de (own.map (·.2)))) := pe_imp (pe_lc hc hN hi ok hg ht he hs) (lc_up tg)
/-- y = [..], y a local name -/
theorem s_setLc {i : Nat} {y : Str} {py : Pos} {elt tgx iter : Expr} {ifs : List Expr} {scope : Scope} {own : List (Str × Nat)} {pos spos : Pos} {g : TG} {di : DIt} {dg : D → En → (En → Prop) → Prop} {dt : DT} {de : DE} (hc : X.calm = true) (hN : X.N.Nodup)
    (tg : Tgt C (own.map (·.2)) g dg) (hi : PI X tgx iter (upI C W di)) (ok : BlkOk X.N X.env.scope scope own)
    (hg : ∀ (s : Shared) (H : Hp) (Ca : Addr) (cl : List (Str × Addr)) (fp : List Addr), PG (X.blk s H scope (compEnvC scope cl Ca X.env) fp) tgx g)
    (ht : ∀ (s : Shared) (H : Hp) (Ca : Addr) (cl : List (Str × Addr)) (fp : List Addr), PTs (X.blk s H scope (compEnvC scope cl Ca X.env) fp) ifs (upT C W0 dt))
    (he : ∀ (s : Shared) (H : Hp) (Ca : Addr) (cl : List (Str × Addr)) (fp : List Addr), PE (X.blk s H scope (compEnvC scope cl Ca X.env) fp) elt (upE C W0 de))
    (hsw : swapsWith (.ListComp elt [⟨tgx, iter, ifs, 0⟩] scope pos) (some (.Name y py)) spos.line X.env = pure true) (hy : X.N[i]? = some y := by rfl) (hyl : X.env.scope.names.lookup y = some .local := by rfl) (hs : ∀ x, foldedSetIterable iter X.env x = pure x := by intro _; rfl) :
    PS X (.Assign [.Name y py] (.ListComp elt [⟨tgx, iter, ifs, 0⟩] scope pos) spos) (upS C W (sAsg (dLc di dg dt de (own.map (·.2))) (gN i))) := ps_imp (ps_setLc hc hN hy hyl hsw hi ok hg ht he hs) fun De σ H h => by
  obtain ⟨th, F, g', M, N, a, k, h⟩ := h
  refine lc_up tg σ H _ ((k.pk (rel := rD C) (P := fun y M' => N.nx (g'.set i (some y)) M') a fun y M' v th' F' H' p h l r => k.nx _ M' _ th' F' H' p ⟨h.hs, h.sl.set i r⟩ l).mk_up h)
theorem dts_nil : PTs X [] (upT C W dYes) := ⟨fun pins s σ H Q I h => pts_nil.run pins s σ H Q I (by
  obtain ⟨th, F, g, M, X', P, p, h⟩ := h
  exact p.fin h rfl)⟩
theorem dts_one {c : Expr} {t : DT} (h : PT X c (upT C W t)) : PTs X [c] (upT C W t) := pts_one h
end
end PD

/-! PD: own lists, calls of defs, fields, instances, isinstance, errors. -/
namespace PD
open PySem PySem.Spec PyProof.Rows L2

/-! ### own lists -/
section
variable {X : Cx} {C : Cn} {W : WX} {a b e : Expr} {da db : DE} {pos : Pos} {es : List Expr} {ea : DA} {ds : DS}
def dNewL (a : DA) : DE := fun g M X k => a g M X fun xs M1 => xs.length ≤ sizeLine ∧ k (.ptr M1.length) (M1 ++ [.lst xs])
theorem Pk.cell {σ : L2.St} {Q : VK} {th : List Addr} {F H : Hp} {g : En} {M : MS} {X' : EK} {P : D → MS → Prop} {q : Addr} {vs : List V} {xs : List D} (p : Pk C W (rD C) σ Q th F H g M X' P) (hq : H q = none) (r : RepL C th F vs xs) (k : P (.ptr M.length) (M ++ [.lst xs])) :
    Q (.ref q) (upd H q (.lst vs)) := by
  have l : Le th F (th ++ [q]) F := Le.push
  refine p.ok _ _ (.ref q) (th ++ [q]) F _ k (p.at_.hs.push (c := .lst xs) hq ⟨p.at_.hs.ex.fr hq, vs, upd_same, r.mono l⟩) l (.ptr ?_)
  rw [List.getElem?_append_right (by rw [p.at_.hs.len]; exact Nat.le_refl _), p.at_.hs.len, Nat.sub_self]
  rfl
theorem de_newL (h : PA X es (upA C W ea)) : PE X (.List es pos) (upE C W (dNewL ea)) := pe_imp (pe_lst h) fun σ H Q h => by
  obtain ⟨th, F, g, M, X', P, p, h⟩ := h
  refine p.bind h fun xs vs t1 F1 H1 M1 h1 rx l1 p1 => ?_
  exact ⟨by rw [RepL.len rx]; exact h1.1, fun q hq => p1.cell hq rx h1.2⟩
def dNewRep (da db : DE) : DE := fun g M X k => da g M X fun x M1 => db g M1 X fun y M2 => ∃ xs n, lstOf x M2 = some xs ∧ y = .int n ∧ 0 ≤ n ∧ n < 1000000 ∧ xs.length * n.toNat ≤ sizeLine ∧ k (.ptr M2.length) (M2 ++ [.lst (List.replicate n.toNat xs).flatten])
theorem de_newRep (ha : PE X a (upE C W da)) (hb : PE X b (upE C W db)) : PE X (.BinOp a .Mult b pos) (upE C W (dNewRep da db)) := pe_imp (pe_op op_rep ha hb) fun σ H Q h => by
  obtain ⟨th, F, g, M, X', P, p, h⟩ := h
  refine p.bind h fun x v t1 F1 H1 M1 h1 rx l1 p1 => p1.bind h1 fun y w t2 F2 H2 M2 h2 ry l2 p2 => ?_
  obtain ⟨xs, n, e1, rfl, h0, h3, hz, q⟩ := h2
  obtain ⟨ad, vs, rfl, ha, r1⟩ := lst_at p2.at_.hs (rx.mono l2) e1
  cases ry
  exact ⟨ad, n, vs, rfl, rfl, ha, by omega, by omega, by rw [RepL.len r1]; exact hz, fun q' hq => p2.cell hq (RepL.rep r1) q⟩
def dNewList (a : DA) : DE := fun g M X k => a g M X fun xs M1 => ∃ x ys, xs = [x] ∧ seqOf x M1 = some ys ∧ k (.ptr M1.length) (M1 ++ [.lst ys])
theorem de_newList {p : Pos} (hm : X.mg "list" = none) (ha : PA X [a] (upA C W ea)) (hg : Gl X "list" := by rfl) (he : starEach [a] X.env = (false, eval a X.env) :: starEach [] X.env := by rfl) : PE X (.Call (.Name "list" p) [a] [] pos) (upE C W (dNewList ea)) :=
  pe_imp (pe_callTy call_list_of hg hm (by decide +kernel) ha (by decide) (by decide) he) fun σ H Q h => by
  obtain ⟨th, F, g, M, X', P, p, h⟩ := h
  refine p.bind h fun xs vs t1 F1 H1 M1 h1 rx l1 p1 => ?_
  obtain ⟨x, ys, rfl, e, q⟩ := h1
  obtain ⟨v, rfl, r⟩ := RepL.one' rx
  obtain ⟨ad, ws, rfl, h2, r1⟩ := seq_at p1.at_.hs r e
  exact ⟨ad, ws, rfl, h2.elim (fun z => .inl (SqL.of z)) (fun z => .inr (SqT.of z)), fun q' hq => p1.cell hq r1 q⟩
/-- x.append(y), x an own list -/
def dApp (dx dy : DE) : DE := fun g M X k => dx g M X fun x M1 => ∃ j, x = .ptr j ∧ (∃ zs, M1[j]? = some (.lst zs)) ∧ dy g M1 X fun y M2 => ∃ xs, M2[j]? = some (.lst xs) ∧ xs.length < sizeLine ∧ k .non (M2.set j (.lst (xs ++ [y])))
theorem de_app {apos cpos : Pos} (ha : PE X a (upE C W da)) (hb : PE X b (upE C W db)) (hst : starEach (b :: []) X.env = (false, eval b X.env) :: starEach [] X.env := by rfl) (hpl : (backTo cpos (starEach [] X.env)).any (·.1) = false := by rfl)
    (hx : PE X (.Call (.Attribute a "append" apos) [b] [] cpos) (tBM X.K "list" rAppend (upE C W da) (tCons (upE C W db) tNil))) : PE X (.Call (.Attribute a "append" apos) [b] [] cpos) (upE C W (dApp da db)) := pe_imp hx fun σ H Q h => by
  obtain ⟨th, F, g, M, X', P, p, h⟩ := h
  refine p.bind h fun x v t1 F1 H1 M1 h1 rx l1 p1 => ?_
  obtain ⟨j, rfl, ⟨zs, ez⟩, q⟩ := h1
  cases rx with
  | @ptr ad _ et =>
    obtain ⟨_, vz, hz, _⟩ := p1.at_.hs.cell _ _ _ ez et
    refine ⟨.inl ⟨rfl, vz, SqL.of hz⟩, p1.bind q fun y w t2 F2 H2 M2 h2 ry l2 p2 => ?_⟩
    obtain ⟨xs, ex, hl, q⟩ := h2
    have et2 := l2.pre _ _ et
    obtain ⟨nF, vs, hv, rv⟩ := p2.at_.hs.cell _ _ _ ex et2
    refine ⟨ad, vs, w, rfl, rfl, hv, by rw [RepL.len rv]; exact hl, ?_⟩
    exact p2.ok _ _ .non t2 F2 _ q (p2.at_.hs.put et2 nF ⟨nF, _, upd_same, rv.app (.one ry)⟩) Le.rfl .non
/-- x[i] = y, x an own list -/
def sSetL (dy dx di : DE) : DS := fun g M N => dy g M (fun e M' => N.ex e g M') fun y M1 => dx g M1 (fun e M' => N.ex e g M') fun x M2 => di g M2 (fun e M' => N.ex e g M') fun i M3 =>
  ∃ j xs k n, x = .ptr j ∧ M3[j]? = some (.lst xs) ∧ i = .int k ∧ ixN xs.length k = some n ∧ N.nx g (M3.set j (.lst (xs.set n y)))
theorem s_setL {ix : Expr} {dx : DE} {p2 : Pos} (hy : PE X e (upE C W da)) (ho : PE X a (upE C W db)) (hi : PE X ix (upE C W dx)) (hx : PS X (.Assign [.Subscript a ix p2] e pos) (tAsg (upE C W da) (gSub (upE C W db) (upE C W dx) rSetL))) :
    PS X (.Assign [.Subscript a ix p2] e pos) (upS C W (sSetL da db dx)) := ps_imp hx fun De σ H h => by
  obtain ⟨th, F, g, M, N, a, k, h⟩ := h
  refine (k.pk (rel := rD C) a fun y M1 v t1 F1 H1 q1 a1 l1 r1 => ?_).mk_up h
  refine ((k.mono l1).pk (rel := rD C) a1 fun x M2 w t2 F2 H2 q2 a2 l2 r2 => ?_).mk_up q1
  refine ((k.mono (l1.tr l2)).pk (rel := rD C) a2 fun i M3 u t3 F3 H3 q3 a3 l3 r3 => ?_).mk_up q2
  obtain ⟨j, xs, kk, n, rfl, ex, rfl, en, q⟩ := q3
  cases r3
  cases r2 with
  | @ptr ad _ et =>
    have et3 := l3.pre _ _ et
    obtain ⟨nF, vs, hv, rv⟩ := a3.hs.cell _ _ _ ex et3
    refine ⟨ad, vs, kk, n, rfl, rfl, hv, by rw [RepL.len rv]; exact en, ?_⟩
    exact k.nx g _ σ t3 F3 _ q ⟨a3.hs.put et3 nF ⟨nF, _, upd_same, rv.set n (r1.mono (l2.tr l3))⟩, a3.sl⟩ ((l1.tr l2).tr l3)
/-- x.pop(), x an own list -/
def dPop (dx : DE) : DE := fun g M X k => dx g M X fun x M1 => ∃ j xs y, x = .ptr j ∧ M1[j]? = some (.lst xs) ∧ xs[xs.length - 1]? = some y ∧ k y (M1.set j (.lst xs.dropLast))
theorem RepL.dropLast {C : Cn} {th : List Addr} {F : Hp} {vs : List V} {xs : List D} (r : RepL C th F vs xs) : RepL C th F vs.dropLast xs.dropLast := by
  rw [List.dropLast_eq_take, List.dropLast_eq_take, RepL.len r]
  exact r.take _
theorem de_pop {apos cpos : Pos} (ha : PE X a (upE C W da)) (hx : PE X (.Call (.Attribute a "pop" apos) [] [] cpos) (tBM0 X.K "list" rPop (upE C W da))) : PE X (.Call (.Attribute a "pop" apos) [] [] cpos) (upE C W (dPop da)) := pe_imp hx fun σ H Q h => by
  obtain ⟨th, F, g, M, X', P, p, h⟩ := h
  refine p.bind h fun x v t1 F1 H1 M1 h1 rx l1 p1 => ?_
  obtain ⟨j, xs, y, rfl, ex, ey, q⟩ := h1
  cases rx with
  | @ptr ad _ et =>
    obtain ⟨nF, vs, hv, rv⟩ := p1.at_.hs.cell _ _ _ ex et
    obtain ⟨u, eu, ru⟩ := rv.get ey
    refine ⟨.inl ⟨rfl, vs, SqL.of hv⟩, ad, vs, u, rfl, rfl, hv, by rw [RepL.len rv]; exact eu, ?_⟩
    exact p1.ok _ _ u t1 F1 _ q (p1.at_.hs.put et nF ⟨nF, _, upd_same, rv.dropLast⟩) Le.rfl ru
/-- the own list in slot i is read from here on as data -/
def sFrz (i : Nat) (s : DS) : DS := fun g M N => ∃ j xs, g[i]? = some (some (.ptr j)) ∧ M[j]? = some (.lst xs) ∧ s (g.set i (some (.lst xs))) (M.set j .dead) N
theorem frz_up {D' : Ends} {σ : L2.St} {H : Hp} {i : Nat} (h : upS C W (sFrz i ds) D' σ H) : upS C W ds D' σ H := by
  obtain ⟨th, F, g, M, N, a, k, j, xs, eg, em, h⟩ := h
  obtain ⟨v, ev, r⟩ := a.sl.2 i _ eg
  cases r with
  | @ptr ad _ et =>
    obtain ⟨nF, vs, hv, rv⟩ := a.hs.cell _ _ _ em et
    have l : Le th F th (upd F ad (.lst vs)) := Le.nw nF
    refine ⟨th, upd F ad (.lst vs), _, _, N, ⟨a.hs.freeze et nF hv, ?_⟩, k.mono l, h⟩
    have s := (a.sl.mono l).set i (v := .ref ad) (y := .lst xs) (.lst upd_same (RepL.mono l rv))
    have e2 : σ.set i (some (.ref ad)) = σ := by
      refine List.ext_getElem? fun n => ?_
      by_cases q : i = n
      · subst q
        rw [List.getElem?_set_self (List.getElem?_eq_some_iff.mp ev).1, ev]
      · rw [List.getElem?_set_ne q]
    rw [e2] at s
    exact s
theorem s_frz {st : Stmt} (i : Nat) (h : PS X st (upS C W ds)) : PS X st (upS C W (sFrz i ds)) := ps_imp h fun _ _ _ q => frz_up q
theorem ss_frz {st : List Stmt} (i : Nat) (h : PSs X st (upS C W ds)) : PSs X st (upS C W (sFrz i ds)) := pss_imp h fun _ _ _ q => frz_up q
end

/-! ### promises over data -/
abbrev DSp := List D → MS → EK → (D → MS → Prop) → Prop
def upSp (C : Cn) (s : DSp) : Sp := fun vs H Q E => ∃ th F M ys X P, Hs C th F H M ∧ RepL C th F vs ys ∧ s ys M X P ∧
  (∀ (y : D) (M' : MS) (v : V) (th' : List Addr) (F' H' : Hp), P y M' → Hs C th' F' H' M' → Le th F th' F' → Rep C th' F' v y → Q v H') ∧
  ∀ (e : Exn) (M' : MS) (th' : List Addr) (F' H' : Hp) (cls : Value) (dd : Option Addr), X e M' → Hs C th' F' H' M' → Le th F th' F' → ExcAt C th' F' H' e cls dd → E cls dd H'
def dCall (s : DSp) (dd : List D) (a : DA) : DE := fun g M X k => a g M X fun xs M1 => s (xs ++ dd) M1 X k
section
variable {X : Cx} {C : Cn} {W : WX} {a : Expr} {pos p : Pos} {es : List Expr} {ea : DA} {x : Str} {k : Nat} {f : Addr} {fd : FuncData} {ps : List Str} {s : DSp} {ds : List Value} {dvs : List V} {dd : List D}
theorem de_callD (F : FnOk X.prog X.w X.K X.mg X.base (L2.CX X.prog X.w) k f fd ps (upSp C s)) (hr : Room k X.A) (hm : X.mg x = some (.ref f)) (hk : PySem.W.keepIn X.K (.ref f) = true) (hb : Binds X.K fd ps ds) (hd : Vals dvs ds) (rd : ∀ th F, RepL C th F dvs dd) (tk : Takes X W)
    (ha : PA X (a :: es) (upA C W ea)) (hg : Gl X x := by rfl) (hdb : (x == ("__debug__" : Str)) = false := by decide) (he : starEach (a :: es) X.env = (false, eval a X.env) :: starEach es X.env := by rfl) (hpl : (backTo pos (starEach es X.env)).any (·.1) = false := by rfl) :
    PE X (.Call (.Name x p) (a :: es) [] pos) (upE C W (dCall s dd ea)) :=
  pe_imp (pe_callSD F hr hg hm hk hb hd (fun σ => passAt tk σ) ha hdb he hpl) fun σ H Q h => by
    obtain ⟨th, F, g, M, X', P, p, h⟩ := h
    refine p.bind h fun xs vs t1 F1 H1 M1 h1 rx l1 p1 => ?_
    exact ⟨t1, F1, M1, xs ++ dd, X', P, p1.at_.hs, rx.app (rd _ _), h1, p1.ok, p1.ex⟩
theorem de_call (F : FnOk X.prog X.w X.K X.mg X.base (L2.CX X.prog X.w) k f fd ps (upSp C s)) (hr : Room k X.A) (hm : X.mg x = some (.ref f)) (hk : PySem.W.keepIn X.K (.ref f) = true) (hb : Binds X.K fd ps []) (tk : Takes X W)
    (ha : PA X (a :: es) (upA C W ea)) (hg : Gl X x := by rfl) (hdb : (x == ("__debug__" : Str)) = false := by decide) (he : starEach (a :: es) X.env = (false, eval a X.env) :: starEach es X.env := by rfl) (hpl : (backTo pos (starEach es X.env)).any (·.1) = false := by rfl) :
    PE X (.Call (.Name x p) (a :: es) [] pos) (upE C W (dCall s [] ea)) := de_callD F hr hm hk hb .nil (fun _ _ => .nil) tk ha hg hdb he hpl
end
/-- how a def's body starts: the arguments, the other names empty -/
def startD (n : Nat) (ys : List D) : En := ys.map some ++ List.replicate (n - ys.length) none
theorem start_sl {C : Cn} {th : List Addr} {F : Hp} {N : List Str} {vs : List V} {ys : List D} (r : RepL C th F vs ys) : Sl C th F (L2.start N vs) (startD N.length ys) := by
  have hl := RepL.len r
  refine ⟨?_, fun i y e => ?_⟩
  · unfold L2.start startD
    simp [hl]
  · unfold startD at e
    by_cases hi : i < ys.length
    · rw [List.getElem?_append_left (by rw [List.length_map]; exact hi), List.getElem?_map] at e
      cases h : ys[i]? with
      | none => rw [h] at e; cases e
      | some d =>
        rw [h] at e
        obtain rfl : d = y := by simpa using e
        obtain ⟨v, h1, h2⟩ := r.get h
        refine ⟨v, ?_, h2⟩
        unfold L2.start
        rw [List.getElem?_append_left (by rw [List.length_map, hl]; exact hi), List.getElem?_map, h1]
        rfl
    · rw [List.getElem?_append_right (by rw [List.length_map]; omega)] at e
      rw [List.getElem?_replicate] at e
      split at e <;> cases e
/-- behind the body: the cells that it made are forgotten -/
inductive Ret (P : D → MS → Prop) (n : Nat) (y : D) (M : MS) : Prop
  | same : P y M → Ret P n y M
  | drop {M0 L : MS} : M = M0 ++ L → n ≤ M0.length → (∀ c ∈ M0, ClnC c) → Cln y → P y M0 → Ret P n y M
inductive RetX (X : EK) (n : Nat) (e : Exn) (M : MS) : Prop
  | same : X e M → RetX X n e M
  | drop {M0 L : MS} : M = M0 ++ L → n ≤ M0.length → (∀ c ∈ M0, ClnC c) → (∀ f y, e.fld = some (f, y) → Cln y) → X e M0 → RetX X n e M
def bodyN (n : Nat) (X : EK) (P : D → MS → Prop) : DN := ⟨fun _ M => Ret P n .non M, fun y M => Ret P n y M, fun _ _ => False, fun _ _ => False, fun e _ M => RetX X n e M⟩
section
variable {P : Program} {w : World} {K : PySem.W.Frag} {mg : Str → Option Value} {base : Heap} {C : Cn}
/-- THE RULE for a def: its body's derivation, and the promise without a heap -/
theorem fn_okD {x qual : Str} {st : Stmt} {f : Addr} {fd : FuncData} {N ps : List Str} {k : Nat} {s : DSp} {d : DS} (F : Fun K x qual st f fd) (S : FnScope N ps (defScope st)) (len : ∀ ys M X P, s ys M X P → ys.length = ps.length)
    (hbody : ∀ (cdv : Value) (A : Around) (outer : List Env) (sh : Shared) (H : Hp) (E : XK), Room k (A.deeper (envOfC qual (defScope st) sh.heap.objs.size f cdv)) →
      PSs (cxOf (L2.CX P w) P w K mg base N qual (defScope st) f cdv A outer sh H E) (defBody st) (upS C (fun cls dd _ H' => E cls dd H') d))
    (pure : ∀ ys M X P, s ys M X P → d (startD N.length ys) M (bodyN M.length X P)) : FnOk P w K mg base (L2.CX P w) (k + 1) f fd ps (upSp C s) := by
  refine F.okX S (fun vs H Q E h => ?_) (fun cdv A outer sh H vs Q E hr h => ?_)
  · obtain ⟨th, F', M, ys, X, P', hs, r, h, _⟩ := h
    rw [RepL.len r]
    exact len _ _ _ _ h
  · obtain ⟨th, F', M, ys, X, P', hs, r, h, ok, ex⟩ := h
    refine ⟨_, hbody cdv A outer sh H E hr, th, F', startD N.length ys, M, bodyN M.length X P', ⟨hs, start_sl r⟩, ?_, pure ys M X P' h⟩
    · have rt : ∀ (y : D) (M' : MS) (v : V) (th' : List Addr) (F1 H' : Hp), Ret P' M.length y M' → Hs C th' F1 H' M' → Le th F' th' F1 → Rep C th' F1 v y → Q v H' := by
        intro y M' v th' F1 H' q h' l r'
        cases q with
        | same q => exact ok y M' v th' F1 H' q h' l r'
        | @drop M0 L e hn hc cy q =>
          subst e
          exact ok y M0 v _ F1 H' q (h'.pop hc) (le_take l (by rw [hs.len]; exact hn)) (Rep.cut cy r')
      refine ⟨fun g M' σ th' F1 H' q a l => rt .non M' .non th' F1 H' q a.hs l .non, rt, fun _ _ _ _ _ _ q => q.elim, fun _ _ _ _ _ _ q => q.elim, fun e g M' σ th' F1 H' cls dd q a l x => ?_⟩
      cases q with
      | same q => exact ex e M' th' F1 H' cls dd q a.hs l x
      | @drop M0 L e0 hn hc cy q =>
        subst e0
        refine ex e M0 _ F1 H' cls dd q (a.hs.pop hc) (le_take l (by rw [hs.len]; exact hn)) ?_
        obtain ⟨x1, x2⟩ := x
        refine ⟨x1, ?_⟩
        cases hf : e.fld with
        | none => rw [hf] at x2; exact x2
        | some fy =>
          obtain ⟨f, y⟩ := fy
          rw [hf] at x2
          obtain ⟨ad, v, h1, h2, h3⟩ := x2
          exact ⟨ad, v, h1, h2, Rep.cut (cy f y hf) h3⟩
end
end PD

/-! PD: fields, instances, isinstance. -/
namespace PD
open PySem PySem.Spec PyProof.Rows L2

section
variable {X : Cx} {C : Cn} {W : WX}
def sNever : DS := fun _ _ _ => False
theorem s_never {st : Stmt} : PS X st (upS C W sNever) := ps_imp ps_never fun De σ H h => by
  obtain ⟨th, F, g, M, N, a, k, h⟩ := h
  exact h.elim
theorem ss_never {st : List Stmt} : PSs X st (upS C W sNever) := pss_imp pss_never fun De σ H h => by
  obtain ⟨th, F, g, M, N, a, k, h⟩ := h
  exact h.elim
end

/-! ### the class Game's instances -/
def gmF (n s : Int) (ws : List Int) : List (Str × D) := [("size", .int n), ("share", .int s), ("ways", .tup (iL ws))]
theorem RepF.lookup {C : Cn} {th : List Addr} {F : Hp} : ∀ {gs : List (Str × V)} {fs : List (Str × D)} {f : Str} {y : D}, RepF C th F gs fs → fs.lookup f = some y → ∃ v, gs.lookup f = some v ∧ Rep C th F v y
  | [], [], _, _, _, e => by cases e
  | (g, v) :: gs, (h, d) :: fs, f, y, ⟨e, r1, r2⟩, l => by
    subst e
    rw [List.lookup_cons] at l ⊢
    cases hb : f == g with
    | true =>
      rw [hb] at l
      cases l
      exact ⟨v, rfl, r1⟩
    | false =>
      rw [hb] at l
      exact RepF.lookup r2 l
theorem RepF.none {C : Cn} {th : List Addr} {F : Hp} : ∀ {gs : List (Str × V)} {fs : List (Str × D)} {f : Str}, RepF C th F gs fs → fs.lookup f = none → gs.lookup f = none
  | [], [], _, _, _ => rfl
  | (g, v) :: gs, (h, d) :: fs, f, ⟨e, r1, r2⟩, l => by
    subst e
    rw [List.lookup_cons] at l ⊢
    cases hb : f == g with
    | true => rw [hb] at l; cases l
    | false =>
      rw [hb] at l
      exact RepF.none r2 l
theorem RepF.len {C : Cn} {th : List Addr} {F : Hp} : ∀ {gs : List (Str × V)} {fs : List (Str × D)}, RepF C th F gs fs → gs.length = fs.length
  | [], [], _ => rfl
  | (_, _) :: _, (_, _) :: _, ⟨_, _, r⟩ => by rw [List.length_cons, List.length_cons, RepF.len r]
def putD (f : Str) (y : D) : List (Str × D) → List (Str × D)
  | [] => [(f, y)]
  | (g, x) :: r => if g = f then (g, y) :: r else (g, x) :: putD f y r
theorem RepF.put {C : Cn} {th : List Addr} {F : Hp} {f : Str} {y : D} {v : V} (r : Rep C th F v y) : ∀ {gs : List (Str × V)} {fs : List (Str × D)}, RepF C th F gs fs → RepF C th F (putF f v gs) (putD f y fs)
  | [], [], _ => ⟨rfl, r, trivial⟩
  | (g, w) :: gs, (h, d) :: fs, ⟨e, r1, r2⟩ => by
    subst e
    unfold putF putD
    by_cases q : g = f
    · rw [if_pos q, if_pos q]
      exact ⟨rfl, r, r2⟩
    · rw [if_neg q, if_neg q]
      exact ⟨rfl, r1, RepF.put r r2⟩
/-- a game's field -/
def dGet (f : Str) (d : DE) : DE := fun g M X k => d g M X fun x M1 => ∃ n s ws y, x = .gm n s ws ∧ (gmF n s ws).lookup f = some y ∧ k y M1
theorem gm_at {C : Cn} {th : List Addr} {F H : Hp} {M : MS} {v : V} {n s : Int} {ws : List Int} (h : Hs C th F H M) (r : Rep C th F v (.gm n s ws)) : ∃ a dx fs, v = .ref a ∧ H a = some (.ins C.G dx fs) ∧ RepF C th F fs (gmF n s ws) := by
  cases r with
  | @gm a dx t _ _ _ h1 h2 => exact ⟨a, dx, _, rfl, h.ex _ _ h1, rfl, .int _, rfl, .int _, rfl, .tup h2 (RepL.iL ws), trivial⟩
section
variable {X : Cx} {C : Cn} {W : WX} {e a : Expr} {d da : DE} {pos : Pos} {f : Str}
theorem de_get (he : PE X e (upE C W d)) (hc : Cls C.K C.G) (hn : NoAttr C.K C.G f) (hK : X.K = C.K := by rfl) (hb : attributeBase e f X.env (eval e X.env) = eval e X.env := by rfl) : PE X (.Attribute e f pos) (upE C W (dGet f d)) :=
  pe_imp (pe_fld he hb) fun σ H Q h => by
    obtain ⟨th, F, g, M, X', P, p, h⟩ := h
    refine p.bind h fun x v t1 F1 H1 M1 h1 rx l1 p1 => ?_
    obtain ⟨n, s, ws, y, e1, e2, q⟩ := h1
    subst e1
    obtain ⟨a, dx, fs, rfl, ha, rf⟩ := gm_at p1.at_.hs rx
    obtain ⟨u, e3, ru⟩ := rf.lookup e2
    exact ⟨a, C.G, dx, fs, u, rfl, ha, hK ▸ hc, hK ▸ hn, e3, p1.fin q ru⟩
/-- a game's property -/
theorem de_prop {CX : CXT} {k : Nat} {p g : Addr} {fd : FuncData} {ps : List Str} {nm : Str} (he : PE X e (upE C W d)) (hc : Cls C.K C.G) (hp : PropOf X.K C.G nm p g) (F : FnOk X.prog X.w X.K X.mg X.base CX k g fd ps (getSp C.G f)) (hr : Room (k + 1) X.A) (hb : Binds X.K fd ps []) (hx : Passes CX X.nox E0)
    (hK : X.K = C.K := by rfl) (hab : attributeBase e nm X.env (eval e X.env) = eval e X.env := by rfl) : PE X (.Attribute e nm pos) (upE C W (dGet f d)) :=
  pe_imp (pe_prop he (hK ▸ hc) hp F hr hb .nil hx hab) fun σ H Q h => by
    obtain ⟨th, F, g, M, X', P, p, h⟩ := h
    refine p.bind h fun x v t1 F1 H1 M1 h1 rx l1 p1 => ?_
    obtain ⟨n, s, ws, y, e1, e2, q⟩ := h1
    subst e1
    obtain ⟨a, dx, fs, rfl, ha, rf⟩ := gm_at p1.at_.hs rx
    obtain ⟨u, e3, ru⟩ := rf.lookup e2
    exact ⟨a, dx, fs, rfl, ha, a, dx, fs, u, rfl, ha, e3, p1.fin q ru⟩
/-- a field of a cell that is an instance of the class at c -/
def dIGet (c : Addr) (f : Str) (d : DE) : DE := fun g M X k => d g M X fun x M1 => ∃ j fs y, x = .ptr j ∧ M1[j]? = some (.ins c fs) ∧ fs.lookup f = some y ∧ k y M1
theorem de_iget {c : Addr} (he : PE X e (upE C W d)) (hc : Cls X.K c) (hn : NoAttr X.K c f) (hb : attributeBase e f X.env (eval e X.env) = eval e X.env := by rfl) : PE X (.Attribute e f pos) (upE C W (dIGet c f d)) :=
  pe_imp (pe_fld he hb) fun σ H Q h => by
    obtain ⟨th, F, g, M, X', P, p, h⟩ := h
    refine p.bind h fun x v t1 F1 H1 M1 h1 rx l1 p1 => ?_
    obtain ⟨j, fs, y, rfl, ej, el, q⟩ := h1
    cases rx with
    | @ptr a _ et =>
      obtain ⟨nF, dx, gs, ha, rf⟩ := p1.at_.hs.cell _ _ _ ej et
      obtain ⟨u, e3, ru⟩ := rf.lookup el
      exact ⟨a, c, dx, gs, u, rfl, ha, hc, hn, e3, p1.fin q ru⟩
/-- o.f = e, o a cell -/
def sPut (c : Addr) (f : Str) (da d : DE) : DS := fun g M N => d g M (fun e M' => N.ex e g M') fun y M1 => da g M1 (fun e M' => N.ex e g M') fun x M2 => ∃ j fs, x = .ptr j ∧ M2[j]? = some (.ins c fs) ∧ fs.length < 1000 ∧ N.nx g (M2.set j (.ins c (putD f y fs)))
theorem s_put {c : Addr} {pos' : Pos} (ha : PE X a (upE C W da)) (he : PE X e (upE C W d)) (hc : Cls X.K c) (hn : NoAttr X.K c f) (hs : swapsWith e (some (.Attribute a f pos')) pos.line X.env = pure false := by rfl) : PS X (.Assign [.Attribute a f pos'] e pos) (upS C W (sPut c f da d)) :=
  ps_imp (ps_fld ha he hs) fun De σ H h => by
    obtain ⟨th, F, g, M, N, a, k, h⟩ := h
    refine (k.pk (rel := rD C) a fun y M1 v t1 F1 H1 q1 a1 l1 r1 => ?_).mk_up h
    refine ((k.mono l1).pk (rel := rD C) a1 fun x M2 w t2 F2 H2 q2 a2 l2 r2 => ?_).mk_up q1
    obtain ⟨j, fs, rfl, ej, hl, q⟩ := q2
    cases r2 with
    | @ptr ad _ et =>
      obtain ⟨nF, dx, gs, hv, rf⟩ := a2.hs.cell _ _ _ ej et
      refine ⟨ad, c, dx, gs, rfl, hv, hc, hn, by rw [RepF.len rf]; exact hl, ?_⟩
      exact k.nx g _ σ t2 F2 _ q ⟨a2.hs.put et nF ⟨nF, dx, _, upd_same, RepF.put (r1.mono l2) rf⟩, a2.sl⟩ (l1.tr l2)
end

/-! ### C(..) -/
section
variable {X : Cx} {CX : CXT} {k : Nat} {cl f : Addr} {fd : FuncData} {ps : List Str} {sp : Sp} {E : L2.St → XK} {x : Str} {p pos : Pos} {e : Expr} {es : List Expr} {t : TA}
def tMakeS (cl : Addr) (sp : Sp) (E : L2.St → XK) (t : TA) : TE := fun σ H Q => t σ H fun vs H1 => ∀ x dx, H1 x = none → H1 dx = none → dx ≠ x →
  sp (.ref x :: vs) (upd (upd H1 dx (.own x)) x (.ins cl dx [])) (fun v H2 => v = .non ∧ Q (.ref x) H2) (E σ)
theorem run_makeS {pins : List (Addr × Obj)} {σ : L2.St} {H : Hp} {s : Shared} {Q : VK} {us : List Value} {vs : List V} (M : Mk X.K cl f) (F : FnOk X.prog X.w X.K X.mg X.base CX k f fd ps sp) (hr : Room (k + 1) X.A) (hb : Binds X.K fd ps [])
    (hx : PassesAt CX X σ (E σ)) (I : Inv X pins σ H s) (r : Vals vs us)
    (h : ∀ x dx, H x = none → H dx = none → dx ≠ x → sp (.ref x :: vs) (upd (upd H dx (.own x)) x (.ins cl dx [])) (fun v H2 => v = .non ∧ Q (.ref x) H2) (E σ)) :
    wpAny (model X.prog X.w) X.A (call (.ref cl) us) (EP X pins σ Q) X.xe s := by
  have hq := h (s.heap.objs.size + 1) s.heap.objs.size (I.hok.fresh (Nat.le_succ _)) (I.hok.fresh (Nat.le_refl _)) (Nat.ne_of_lt (Nat.lt_succ_self _))
  have I2 := Inv.made (C := cl) I
  have r2 : Vals (V.ref (s.heap.objs.size + 1) :: vs) (Value.ref (s.heap.objs.size + 1) :: us) := .cons rfl r
  have hl : (Value.ref (s.heap.objs.size + 1) :: us ++ []).length = ps.length := by
    have e := r2.length
    rw [F.len _ _ _ _ hq] at e
    rw [List.append_nil]
    exact e.symm
  have b := hb _ (Value.ref (s.heap.objs.size + 1) :: us) I2.kIn hl
  rw [List.append_nil] at b
  refine wpAny_call (make_map (f := f) I.kIn M.makes M.init (beq_iff_eq.mp M.fn) (codeAny_mono (F.run _ X.stack _ _ ⟨Value.ref (s.heap.objs.size + 1) :: us, []⟩ (Value.ref (s.heap.objs.size + 1) :: us) _ _ (E σ) (hr.make cl us [])
    (I2.env0.make cl us []) b r2 hq) fun r s' hq' => ?_))
  cases r with
  | error e => exact hx pins _ _ e s' I2 hq'
  | ok fl =>
    cases fl with
    | ret u =>
      obtain ⟨v, H', I3, rv, ev, q3⟩ := I2.after hq'
      subst ev
      exact ⟨rv, ⟨V.ref (s.heap.objs.size + 1), H', I3, rfl, q3⟩⟩
    | next => exact False.elim hq'
    | brk => exact False.elim hq'
    | cont => exact False.elim hq'
theorem pe_makeS (M : Mk X.K cl f) (F : FnOk X.prog X.w X.K X.mg X.base CX k f fd ps sp) (hr : Room (k + 1) X.A) (hg : Gl X x) (hm : X.mg x = some (.ref cl)) (hb : Binds X.K fd ps []) (hx : ∀ σ, PassesAt CX X σ (E σ))
    (ha : PA X (e :: es) t) (hdb : (x == ("__debug__" : Str)) = false := by decide) (he : starEach (e :: es) X.env = (false, eval e X.env) :: starEach es X.env := by rfl) (hpl : (backTo pos (starEach es X.env)).any (·.1) = false := by rfl) :
    PE X (.Call (.Name x p) (e :: es) [] pos) (tMakeS cl sp E t) := by
  refine ⟨fun pins s σ H Q I h => ?_⟩
  refine wpAny_Call_Name_kw (ld_glob I hg hm ?_ hdb)
  refine PySem.W.callWith_K (h₀ := X.base) I.ok.mod.kin M.kp (thn (ha.run pos pins s σ H _ I h) fun us s1 ⟨vs, H1, I1, r, q⟩ => ⟨I1.kIn, ?_⟩) he hpl
  exact run_makeS M F hr hb (hx σ) I1 r q
end
/-- C(..): a new cell, then __init__ -/
def dMake (c : Addr) (s : DSp) (a : DA) (fin : MS → (D → MS → Prop) → MS → Prop) : DE := fun g M X k => a g M X fun xs M1 => s (.ptr M1.length :: xs) (M1 ++ [.ins c []]) (fun e M2 => ∃ fs, M2 = M1 ++ [.ins c fs] ∧ (∀ c ∈ M1, ClnC c) ∧ (∀ f y, e.fld = some (f, y) → Cln y) ∧ X e M1) fun y M2 => y = .non ∧ fin M1 k M2
/-- a game: told of as data from then on -/
def finG (c : Addr) : MS → (D → MS → Prop) → MS → Prop := fun M1 k M2 => ∃ n s ws, M2 = M1 ++ [.ins c (gmF n s ws)] ∧ (∀ c ∈ M1, ClnC c) ∧ k (.gm n s ws) M1
/-- an own object: it stays a cell -/
def finC : MS → (D → MS → Prop) → MS → Prop := fun M1 k M2 => k (.ptr M1.length) M2
section
variable {X : Cx} {C : Cn} {W : WX} {a : Expr} {pos p : Pos} {es : List Expr} {ea : DA} {x : Str} {k : Nat} {cl f : Addr} {fd : FuncData} {ps : List Str} {s : DSp}
theorem make_hs {th : List Addr} {F H : Hp} {M : MS} {q dx : Addr} (h : Hs C th F H M) (hq : H q = none) (hd : H dx = none) (ne : dx ≠ q) : Hs C (th ++ [q]) F (upd (upd H dx (.own q)) q (.ins cl dx [])) (M ++ [.ins cl []]) ∧ (th ++ [q])[M.length]? = some q := by
  have h1 := h.grow (Ex.nw (o := .own q) hd)
  have hq1 : upd H dx (.own q) q = none := by rw [upd_ne ne.symm]; exact hq
  refine ⟨h1.push (c := .ins cl []) hq1 ⟨h1.ex.fr hq1, dx, [], upd_same, trivial⟩, ?_⟩
  rw [List.getElem?_append_right (by rw [h.len]; exact Nat.le_refl _), h.len, Nat.sub_self]
  rfl
theorem excAt_cut {th t0 : List Addr} {F H : Hp} {e : Exn} {cls : Value} {dd : Option Addr} (c : ∀ f y, e.fld = some (f, y) → Cln y) (x : ExcAt C th F H e cls dd) : ExcAt C t0 F H e cls dd := by
  obtain ⟨x1, x2⟩ := x
  refine ⟨x1, ?_⟩
  cases hf : e.fld with
  | none => rw [hf] at x2; exact x2
  | some fy =>
    obtain ⟨f, y⟩ := fy
    rw [hf] at x2
    obtain ⟨ad, v, h1, h2, h3⟩ := x2
    exact ⟨ad, v, h1, h2, Rep.cut (c f y hf) h3⟩
theorem de_make {fin : MS → (D → MS → Prop) → MS → Prop} (MK : Mk X.K cl f) (F : FnOk X.prog X.w X.K X.mg X.base (L2.CX X.prog X.w) k f fd ps (upSp C s)) (hr : Room (k + 1) X.A) (hm : X.mg x = some (.ref cl)) (hb : Binds X.K fd ps []) (tk : Takes X W)
    (hfin : ∀ (th th0 : List Addr) (F F0 H : Hp) (M1 M2 : MS) (q : Addr) (P : D → MS → Prop) (Q : VK), Hs C th F H M2 → th0.length = M1.length → Le (th0 ++ [q]) F0 th F → fin M1 P M2 →
      (∀ (y : D) (M' : MS) (v : V) (th' : List Addr) (F' : Hp), P y M' → Hs C th' F' H M' → Le th0 F0 th' F' → Rep C th' F' v y → Q v H) → Q (.ref q) H)
    (ha : PA X (a :: es) (upA C W ea)) (hg : Gl X x := by rfl) (hdb : (x == ("__debug__" : Str)) = false := by decide) (he : starEach (a :: es) X.env = (false, eval a X.env) :: starEach es X.env := by rfl) (hpl : (backTo pos (starEach es X.env)).any (·.1) = false := by rfl) :
    PE X (.Call (.Name x p) (a :: es) [] pos) (upE C W (dMake cl s ea fin)) :=
  pe_imp (pe_makeS MK F hr hg hm hb (fun σ => passAt tk σ) ha hdb he hpl) fun σ H Q h => by
    obtain ⟨th, F, g, M, X', P, p, h⟩ := h
    refine p.bind h fun xs vs t1 F1 H1 M1 h1 rx l1 p1 => ?_
    intro q dx hq hd ne
    obtain ⟨h2, at2⟩ := make_hs (cl := cl) p1.at_.hs hq hd ne
    have lp : Le t1 F1 (t1 ++ [q]) F1 := Le.push
    refine ⟨t1 ++ [q], F1, M1 ++ [.ins cl []], .ptr M1.length :: xs, _, _, h2, .cons (.ptr at2) (rx.mono lp), h1, fun y M2 v t2 F2 H2 q2 hs2 l2 r2 => ?_, fun e M2 t2 F2 H2 cls dd q2 hs2 l2 x2 => ?_⟩
    · obtain ⟨e, q2⟩ := q2
      subst e
      cases r2
      exact ⟨rfl, hfin t2 t1 F2 F1 H2 M1 M2 q P Q hs2 p1.at_.hs.len l2 q2 fun y M' v th' F' qq hh ll rr => p1.ok y M' v th' F' H2 qq hh ll rr⟩
    · obtain ⟨fs, e2, hc, cy, q2⟩ := q2
      subst e2
      exact p1.ex e M1 _ F2 H2 cls dd q2 (hs2.pop hc) (le_take (lp.tr l2) (by rw [p1.at_.hs.len]; exact Nat.le_refl _)) (excAt_cut cy x2)
theorem de_makeG (hG : cl = C.G) (MK : Mk X.K cl f) (F : FnOk X.prog X.w X.K X.mg X.base (L2.CX X.prog X.w) k f fd ps (upSp C s)) (hr : Room (k + 1) X.A) (hm : X.mg x = some (.ref cl)) (hb : Binds X.K fd ps []) (tk : Takes X W)
    (ha : PA X (a :: es) (upA C W ea)) (hg : Gl X x := by rfl) (hdb : (x == ("__debug__" : Str)) = false := by decide) (he : starEach (a :: es) X.env = (false, eval a X.env) :: starEach es X.env := by rfl) (hpl : (backTo pos (starEach es X.env)).any (·.1) = false := by rfl) :
    PE X (.Call (.Name x p) (a :: es) [] pos) (upE C W (dMake cl s ea (finG cl))) :=
  de_make MK F hr hm hb tk (fun th th0 F F0 H M1 M2 q P Q hs hl l fin ok => by
    obtain ⟨n, s, ws, e, hc, qq⟩ := fin
    subst e
    have at2 : (th0 ++ [q])[M1.length]? = some q := by
      rw [List.getElem?_append_right (by rw [hl]; exact Nat.le_refl _), hl, Nat.sub_self]
      rfl
    have et := l.pre _ _ at2
    have eg : (M1 ++ [Cell.ins cl (gmF n s ws)])[M1.length]? = some (.ins cl (gmF n s ws)) := by
      rw [List.getElem?_append_right (Nat.le_refl _), Nat.sub_self]
      rfl
    obtain ⟨nF, dx, gs, hv, rf⟩ := hs.cell _ _ _ eg et
    have l2 : Le (th.take M1.length) F (th.take M1.length) (upd F q (.ins cl dx gs)) := Le.nw nF
    refine ok (.gm n s ws) M1 (.ref q) _ _ qq (hs.popFreeze hc et nF hv) ((le_take ((Le.push (p := q)).tr l) (by rw [hl]; exact Nat.le_refl _)).tr l2) ?_
    match gs, rf with
    | [(f1, v1), (f2, v2), (f3, v3)], ⟨e1, r1, e2, r2, e3, r3, _⟩ =>
      subst e1 e2 e3
      cases r1
      cases r2
      cases r3 with
      | @tup t vs _ ht rs =>
        have ei := rs.ofI
        subst ei
        subst hG
        exact .gm upd_same (by rw [upd_ne (ne_of_none ht nF)]; exact ht)) ha hg hdb he hpl
theorem de_makeC (MK : Mk X.K cl f) (F : FnOk X.prog X.w X.K X.mg X.base (L2.CX X.prog X.w) k f fd ps (upSp C s)) (hr : Room (k + 1) X.A) (hm : X.mg x = some (.ref cl)) (hb : Binds X.K fd ps []) (tk : Takes X W)
    (ha : PA X (a :: es) (upA C W ea)) (hg : Gl X x := by rfl) (hdb : (x == ("__debug__" : Str)) = false := by decide) (he : starEach (a :: es) X.env = (false, eval a X.env) :: starEach es X.env := by rfl) (hpl : (backTo pos (starEach es X.env)).any (·.1) = false := by rfl) :
    PE X (.Call (.Name x p) (a :: es) [] pos) (upE C W (dMake cl s ea finC)) :=
  de_make MK F hr hm hb tk (fun th th0 F F0 H M1 M2 q P Q hs hl l fin ok => by
    have at2 : (th0 ++ [q])[M1.length]? = some q := by
      rw [List.getElem?_append_right (by rw [hl]; exact Nat.le_refl _), hl, Nat.sub_self]
      rfl
    exact ok _ M2 (.ref q) th F fin hs ((Le.push (p := q)).tr l) (.ptr (l.pre _ _ at2))) ha hg hdb he hpl
end

/-! ### isinstance of built-in classes -/
def tyN (x : D) (M : MS) : String := match x with
  | .non => "NoneType"
  | .bl _ => "bool"
  | .int _ => "int"
  | .str _ => "str"
  | .lst _ => "list"
  | .tup _ => "tuple"
  | .dct => "dict"
  | .ptr j => match M[j]? with
    | some (.lst _) => "list"
    | _ => ""
  | _ => ""
def isB (t n : String) : Bool := t == n || (t == "bool" && n == "int")
def tyL : List String := ["NoneType", "bool", "int", "str", "list", "tuple", "dict"]
theorem kit_tab : ∀ t ∈ tyL, ∀ n ∈ tyL, kitB t n = some (isB t n) := by decide +kernel
abbrev rdIsi : RA := fun xs M k => ∃ x n, xs = [x, .ty n] ∧ tyN x M ∈ tyL ∧ n ∈ tyL ∧ k (.bl (isB (tyN x M) n))
theorem tyx_at {C : Cn} {th : List Addr} {F H : Hp} {M : MS} {v : V} {x : D} (h : Hs C th F H M) (r : Rep C th F v x) (e : tyN x M ∈ tyL) : TyX C.K H v (.type (tyN x M)) := by
  cases r with
  | non => exact .base .non
  | bl b => exact .base (.bl b)
  | int i => exact .base (.int i)
  | str s => exact .base (.str s)
  | lst q r => exact .base (.lst (h.ex _ _ q))
  | tup q r => exact .base (.tup (h.ex _ _ q))
  | dct q => exact .base (.dK (h.ex _ _ q))
  | @ptr a j q =>
    have key : (∃ ys, M[j]? = some (.lst ys)) ∨ tyN (.ptr j) M = "" := by
      unfold tyN
      dsimp only
      split
      · rename_i ys hm
        exact .inl ⟨ys, hm⟩
      · exact .inr rfl
    rcases key with ⟨ys, hm⟩ | key
    · obtain ⟨_, vs, q2, r⟩ := h.cell _ _ _ hm q
      have e2 : tyN (.ptr j) M = "list" := by simp [tyN, hm]
      rw [e2]
      exact .base (.lst q2)
    · rw [key] at e
      exact absurd e (by decide)
  | gm _ _ => exact absurd e (by simp [tyN, tyL])
  | scr _ => exact absurd e (by simp [tyN, tyL])
  | ty _ => exact absurd e (by simp [tyN, tyL])
  | gcl => exact absurd e (by simp [tyN, tyL])
  | exc _ _ _ => exact absurd e (by simp [tyN, tyL])
  | exn _ => exact absurd e (by simp [tyN, tyL])
  | ecl _ => exact absurd e (by simp [tyN, tyL])
theorem lk_isi {C : Cn} : LkA C (rIsi C.K) rdIsi := by
  rintro xs M k vs th F H Q hs rx ⟨x, n, rfl, e1, e2, q⟩ kk
  obtain ⟨v, w, rfl, r, r2⟩ := rx.two'
  cases r2
  exact ⟨v, .ty n, .type (tyN x M), .type n, _, rfl, .ty n, tyx_at hs r e1, kit_ty (kit_tab _ e1 _ e2), kk _ _ F H q hs Le.rfl (.bl _)⟩
section
variable {X : Cx} {C : Cn} {W : WX} {a b : Expr} {pos p : Pos} {ea : DA} {x : Str}
theorem de_ty {n : String} (hm : X.mg x = none) (hv : bootBuiltins x = some (.type n) := by decide +kernel) (hg : Gl X x := by rfl) (hn : x ≠ "__name__" := by decide) (hd : (x == ("__debug__" : Str)) = false := by decide) : PE X (.Name x pos) (upE C W (dC (.ty n))) :=
  de_c (pe_bltn hg hm hv (v := .ty n) rfl hn hd) fun _ _ => .ty n
theorem b_isi (hm : X.mg "isinstance" = none) (ha : PA X [a, b] (upA C W ea)) (hK : X.K = C.K := by rfl) (hg : Gl X "isinstance" := by rfl) (he : starEach [a, b] X.env = (false, eval a X.env) :: starEach [b] X.env := by rfl) (hpl : (backTo pos (starEach [b] X.env)).any (·.1) = false := by rfl) :
    PE X (.Call (.Name "isinstance" p) [a, b] [] pos) (upE C W (dCB rdIsi ea)) := de_cb (hK ▸ call_isi) lk_isi hm (by decide +kernel) ha hg (by decide) (by decide) he hpl
end
end PD

/-! PD: further rules. -/
namespace PD
open PySem PySem.Spec PyProof.Rows L2

/-- a def of the text -/
structure Df (K : PySem.W.Frag) (mg : Str → Option Value) (nm qual : Str) (st : Stmt) (ps : List Str) (f : Addr) (fd : FuncData) : Prop where
  fn : Fun K nm qual st f fd
  g : mg nm = some (.ref f)
  b : Binds K fd ps []

section
variable {X : Cx} {C : Cn} {W : WX} {a b c e : Expr} {da db dc : DE} {pos p : Pos} {es : List Expr} {ea : DA} {x : Str}
theorem de_globE {i : Int} (hm : ∃ t, X.mg x = some (.int i t)) (hg : Gl X x := by rfl) (hd : (x == ("__debug__" : Str)) = false := by decide) : PE X (.Name x pos) (upE C W (dI i)) := by
  obtain ⟨t, h⟩ := hm
  exact de_globI hg h hd
theorem de_globSE {i : Str} (hm : ∃ t, X.mg x = some (.str i t)) (hg : Gl X x := by rfl) (hd : (x == ("__debug__" : Str)) = false := by decide) : PE X (.Name x pos) (upE C W (dC (.str i))) := by
  obtain ⟨t, h⟩ := hm
  exact de_globS hg h hd
def dNeg (d : DE) : DE := dUn (fun x _ k => ∃ i, x = .int i ∧ k (.int (-i))) d
def sPar3 (i j l : Nat) (d : DA) : DS := fun g M N => d g M (fun e M' => N.ex e g M') fun ys M' => ∃ y z w, ys = [y, z, w] ∧ N.nx (((g.set i (some y)).set j (some z)).set l (some w)) M'
theorem s_par3 {i j l : Nat} {x y z : Str} {px py pz pt : Pos} {kt k2 : Nat} {pt2 : Pos} (hc : X.calm = true) (hN : X.N.Nodup) (ha : PA X [a, b, c] (upA C W ea)) (hi : X.N[i]? = some x := by rfl) (hj : X.N[j]? = some y := by rfl) (hl : X.N[l]? = some z := by rfl)
    (hij : i ≠ j := by decide) (hil : i ≠ l := by decide) (hjl : j ≠ l := by decide)
    (hx : X.env.scope.names.lookup x = some .local := by rfl) (hy : X.env.scope.names.lookup y = some .local := by rfl) (hz : X.env.scope.names.lookup z = some .local := by rfl)
    (hw : swappedStores [.Tuple [.Name x px, .Name y py, .Name z pz] kt pt] (.Tuple [a, b, c] k2 pt2) X.env = pure (some [x, y, z]) := by rfl)
    (hs : swapsWithSole [.Tuple [.Name x px, .Name y py, .Name z pz] kt pt] (.Tuple [a, b, c] k2 pt2) pos.line X.env = pure false := by rfl) :
    PS X (.Assign [.Tuple [.Name x px, .Name y py, .Name z pz] kt pt] (.Tuple [a, b, c] k2 pt2) pos) (upS C W (sPar3 i j l ea)) := ps_imp (ps_par3 hc hN hi hj hl hij hil hjl hx hy hz ha hw hs) fun De σ H h => by
  obtain ⟨th, F, g, M, N, a, k, h⟩ := h
  refine (k.pk (rel := rL C) a fun ys M' v th' F' H' p h l r => ?_).mk_up h
  obtain ⟨y, z, w, e, q⟩ := p
  subst e
  obtain ⟨v, vs, rfl, r1, r2⟩ := RepL.cons' r
  obtain ⟨u, w, rfl, r2, r3⟩ := RepL.two' r2
  exact ⟨v, u, w, rfl, k.nx _ M' _ th' F' H' q ⟨h.hs, ((h.sl.set _ r1).set _ r2).set _ r3⟩ l⟩
theorem s_augAdd {i : Nat} {pos' : Pos} (hN : X.N.Nodup) (he : PE X e (upE C W da)) (hi : X.N[i]? = some x := by rfl) (hx : Loc X.env.scope x := by first | exact Or.inl rfl | exact Or.inr rfl) (hf : X.fn x = true ∨ X.env.scope.names.lookup x = some .local := by first | exact .inl rfl | exact .inr rfl) :
    PS X (.AugAssign (.Name x pos') .Add e pos) (upS C W (sAug i rdAdd da)) := ps_imp (ps_aug hN hi hx he ip_add hf) fun De σ H h => by
  obtain ⟨th, F, g, M, N, a, k, x, ex, h⟩ := h
  obtain ⟨v, ev, rx⟩ := a.sl.2 i x ex
  refine ⟨v, ev, (k.pk (rel := rD C) a fun y M' w th' F' H' p hA l r => ?_).mk_up h⟩
  obtain ⟨m, n, rfl, rfl, q⟩ := p
  cases rx
  cases r
  exact ⟨m, n, rfl, rfl, k.nx _ M' _ th' F' H' q ⟨hA.hs, hA.sl.set i (.int _)⟩ l⟩

/-! ### list(range(..)) -/
def rngC (a c : Int) (n : Nat) : List Int := (List.range n).map fun (i : Nat) => a + (i : Int) * c
theorem vals_rgC {a c : Int} {n : Nat} {acc : Array Value} (h : ItemsOf (fun i v => ∃ t, v = .int (a + i * c) t) acc n) : Vals ((rngC a c n).map V.int) acc.toList := by
  have e : acc.toList.length = n := by rw [Array.length_toList]; exact h.1
  unfold rngC
  rw [List.map_map, ← e]
  refine vals_of_get acc.toList _ fun j u hj => ?_
  obtain ⟨t, rfl⟩ := h.2 j u (by rw [← hj, Array.getElem?_toList])
  exact ⟨t, rfl⟩
def tLR3 (t : TA) : TE := fun σ H Q => t σ H fun vs H1 => ∃ (a b c : Int) (n : Nat), vs = [.int a, .int b, .int c] ∧ RgC a b c n ∧ n ≤ 2 ^ 24 ∧ ∀ q, H1 q = none → Q (.ref q) (upd H1 q (.lst ((rngC a c n).map V.int)))
theorem pe_LR3 {t : TA} {p2 pos2 : Pos} (hc : X.calm = true) (hm : X.mg "list" = none) (hr : X.mg "range" = none) (ha : PA X [a, b, c] t) (hg : Gl X "list" := by rfl) (hg2 : Gl X "range" := by rfl)
    (na : starEach [.Call (.Name "range" p2) [a, b, c] [] pos2] X.env = (false, eval (.Call (.Name "range" p2) [a, b, c] [] pos2) X.env) :: starEach [] X.env := by rfl)
    (hs : starEach [a, b, c] X.env = (false, eval a X.env) :: starEach [b, c] X.env := by rfl) (hpl : (backTo pos2 (starEach [b, c] X.env)).any (·.1) = false := by rfl) :
    PE X (.Call (.Name "list" p) [.Call (.Name "range" p2) [a, b, c] [] pos2] [] pos) (tLR3 t) := by
  refine ⟨fun pins s σ H Q I h => ?_⟩
  refine Call_ (ld_blt I hg hm boot_list (PyProof.Rows.callWith_type1 (args_cons ?_ na) na))
  refine Call_ (ld_blt I hg2 hr boot_range (PyProof.Rows.callWith_type1 (thn (ha.run pos2 pins s σ H _ I h) fun us s1 ⟨vs, H1, I1, r1, q1⟩ => ?_) hs hpl))
  obtain ⟨i, j, k, n, e, ⟨c0, c1, c2, c3⟩, hn, q⟩ := q1
  subst e
  cases r1 with
  | cons r rr =>
    cases rr with
    | cons r' rr =>
      cases rr with
      | cons r'' rr =>
        cases rr
        obtain ⟨t, rfl⟩ := r
        obtain ⟨t', rfl⟩ := r'
        obtain ⟨t'', rfl⟩ := r''
        refine call_range_3 c0 (args_nil ?_) (.inl (PyProof.noPylong_small c1))
        have I2 : Inv X pins σ H1 { s1 with heap := s1.heap.push { cls := .type "range", data := .fields #[.int i t, .int j t', .int k t''] } } := I1.kept (t' := s1.toks) fun b o e => Heap.get?_push_of_some _ e
        refine call_list_range (n := n) (I2.ok.hd hc) (IsRange.new ..) c2 c3 hn fun h' tk acc c' hk e' hi => ?_
        refine ⟨.ref _, upd H1 _ (.lst ((rngC i k n).map V.int)), I2.laid hk (Nat.le_refl _) (show ObjOk X.prog X.w _ _ _ (.lst _) from ⟨?_, acc.toList, c', vals_rgC hi, ?_⟩), rfl, q _ (I2.hok.fresh (Nat.le_refl _))⟩
        · rw [List.length_map]; unfold rngC; rw [List.length_map, List.length_range, sizeLine_eq]; omega
        · rw [Array.toArray_toList]; exact e'
def dLR3 (d : DA) : DE := fun g M X k => d g M X fun xs M1 => ∃ (a b c : Int) (n : Nat), xs = [.int a, .int b, .int c] ∧ RgC a b c n ∧ n ≤ 2 ^ 24 ∧ k (.lst (iL (rngC a c n))) M1
theorem b_listR {p2 pos2 : Pos} (hm : X.mg "list" = none) (hr : X.mg "range" = none) (hc : X.calm = true) (ha : PA X [a, b, c] (upA C W ea)) (hg : Gl X "list" := by rfl) (hg2 : Gl X "range" := by rfl)
    (na : starEach [.Call (.Name "range" p2) [a, b, c] [] pos2] X.env = (false, eval (.Call (.Name "range" p2) [a, b, c] [] pos2) X.env) :: starEach [] X.env := by rfl)
    (hs : starEach [a, b, c] X.env = (false, eval a X.env) :: starEach [b, c] X.env := by rfl) (hpl : (backTo pos2 (starEach [b, c] X.env)).any (·.1) = false := by rfl) :
    PE X (.Call (.Name "list" p) [.Call (.Name "range" p2) [a, b, c] [] pos2] [] pos) (upE C W (dLR3 ea)) := pe_imp (pe_LR3 hc hm hr ha hg hg2 na hs hpl) fun σ H Q h => by
  obtain ⟨th, F, g, M, X', P, p, h⟩ := h
  refine p.bind h fun xs vs t1 F1 H1 M1 h1 rx l1 p1 => ?_
  obtain ⟨i, j, k, n, rfl, hr, hn, q⟩ := h1
  obtain ⟨v, vs, rfl, r1, r2⟩ := RepL.cons' rx
  obtain ⟨u, w, rfl, r2, r3⟩ := RepL.two' r2
  cases r1
  cases r2
  cases r3
  exact ⟨i, j, k, n, rfl, hr, hn, fun q' hq => p1.new hq q fun l => .lst upd_same (RepL.iL _)⟩
end

/-! ### x in xs -/
def flD : D → Bool
  | .non => true
  | .bl _ => true
  | .int _ => true
  | .str _ => true
  | _ => false
def inD (x : D) (xs : List D) : Bool := xs.any fun y => eqD y x
abbrev rdIn : D → D → MS → (D → Prop) → Prop := fun x y M k => ∃ xs, seqOf y M = some xs ∧ flD x = true ∧ xs.all flD = true ∧ k (.bl (inD x xs))
abbrev rdNin : D → D → MS → (D → Prop) → Prop := fun x y M k => ∃ xs, seqOf y M = some xs ∧ flD x = true ∧ xs.all flD = true ∧ k (.bl (!inD x xs))
section
variable {C : Cn} {th : List Addr} {F H : Hp} {M : MS}
theorem fl_at {v : V} {x : D} (r : Rep C th F v x) (h : flD x = true) : flatV v = true := by
  cases r <;> first | rfl | cases h
theorem fl_all : ∀ {vs : List V} {xs : List D}, RepL C th F vs xs → xs.all flD = true → vs.all flatV = true
  | _, _, .nil, _ => rfl
  | _, _, .cons h r, e => by
    rw [List.all_cons, Bool.and_eq_true] at e ⊢
    exact ⟨fl_at h e.1, fl_all r e.2⟩
theorem eq_fl {v w : V} {x y : D} (r : Rep C th F v x) (s : Rep C th F w y) (h1 : flD x = true) (h2 : flD y = true) : eqV v w = eqD x y := by
  cases r <;> first | (cases h1; done) | (cases s <;> first | (cases h2; done) | rfl | (unfold eqV eqD D.py PyData.eqv; rfl))
theorem in_fl {w : V} {y : D} (s : Rep C th F w y) (h2 : flD y = true) : ∀ {vs : List V} {xs : List D}, RepL C th F vs xs → xs.all flD = true → inV w vs = inD y xs
  | _, _, .nil, _ => rfl
  | _, _, .cons h r, e => by
    rw [List.all_cons, Bool.and_eq_true] at e
    unfold inV inD
    rw [List.any_cons, List.any_cons, eq_fl h s e.1 h2]
    have ih := in_fl s h2 r e.2
    unfold inV inD at ih
    rw [ih]
theorem lk_in : Lk2 C (rIn C.K false) rdIn := by
  rintro x y M k v w th F H Q hs rx ry ⟨xs, e, f1, f2, q⟩ kk
  obtain ⟨a, vs, rfl, h1, r1⟩ := seq_at hs ry e
  refine ⟨a, vs, rfl, h1.elim (fun z => .inl (SqL.of z)) (fun z => .inr (SqT.of z)), fl_at rx f1, fl_all r1 f2, ?_⟩
  rw [in_fl rx f1 r1 f2]
  exact kk _ _ F H q hs Le.rfl (.bl _)
theorem lk_nin : Lk2 C (rIn C.K true) rdNin := by
  rintro x y M k v w th F H Q hs rx ry ⟨xs, e, f1, f2, q⟩ kk
  obtain ⟨a, vs, rfl, h1, r1⟩ := seq_at hs ry e
  refine ⟨a, vs, rfl, h1.elim (fun z => .inl (SqL.of z)) (fun z => .inr (SqT.of z)), fl_at rx f1, fl_all r1 f2, ?_⟩
  rw [in_fl rx f1 r1 f2]
  exact kk _ _ F H q hs Le.rfl (.bl _)
end
section
variable {X : Cx} {C : Cn} {W : WX} {a b c e : Expr} {da db dc : DE} {pos p : Pos} {es : List Expr} {ea : DA} {x : Str}
theorem e_in (ha : PE X a (upE C W da)) (hb : PE X b (upE C W db)) (hm : behindInMarks .In b = false := by rfl) (hK : X.K = C.K := by rfl) : PE X (.Compare a [.In] [b] pos) (upE C W (dOp rdIn da db)) := de_cmp (hK ▸ op_in_seq) lk_in ha hb hm
theorem e_nin (ha : PE X a (upE C W da)) (hb : PE X b (upE C W db)) (hm : behindInMarks .NotIn b = false := by rfl) (hK : X.K = C.K := by rfl) : PE X (.Compare a [.NotIn] [b] pos) (upE C W (dOp rdNin da db)) := de_cmp (hK ▸ op_notIn_seq) lk_nin ha hb hm
theorem t_in (ha : PE X a (upE C W da)) (hb : PE X b (upE C W db)) (hm : behindInMarks .In b = false := by rfl) (hK : X.K = C.K := by rfl) : PT X (.Compare a [.In] [b] pos) (upT C W (dB (dOp rdIn da db))) := dt_cmp (hK ▸ op_in_seq) lk_in ha hb hm
theorem t_nin (ha : PE X a (upE C W da)) (hb : PE X b (upE C W db)) (hm : behindInMarks .NotIn b = false := by rfl) (hK : X.K = C.K := by rfl) : PT X (.Compare a [.NotIn] [b] pos) (upT C W (dB (dOp rdNin da db))) := dt_cmp (hK ▸ op_notIn_seq) lk_nin ha hb hm
/-- sorted of ints, fewer than 64 -/
abbrev rdSort : RA := fun xs M k => ∃ x l, xs = [x] ∧ lstOf x M = some (iL l) ∧ l.length < 64 ∧ ∀ l' : List Int, l'.Perm l → l'.Pairwise (· ≤ ·) → k (.lst (iL l'))
theorem lk_sort : LkA C (rSorted C.K) rdSort := by
  rintro xs M k vs th F H Q hs rx ⟨x, l, rfl, e, hl, q⟩ kk
  obtain ⟨v, rfl, r⟩ := rx.one'
  obtain ⟨a, ws, rfl, h1, r1⟩ := lst_at hs r e
  have e1 := r1.ofI
  subst e1
  refine ⟨a, l, rfl, SqL.of h1, hl, fun l' p hp ho hn => ?_⟩
  have le : Le th F th (upd F p (.lst (l'.map V.int))) := Le.nw (hs.ex.fr hn)
  exact kk _ _ _ _ (q l' hp ho) (hs.new hn) le (.lst upd_same (RepL.iL _))
theorem b_sort (hm : X.mg "sorted" = none) (ha : PA X [a] (upA C W ea)) (hK : X.K = C.K := by rfl) (hg : Gl X "sorted" := by rfl) (he : starEach [a] X.env = (false, eval a X.env) :: starEach [] X.env := by rfl) : PE X (.Call (.Name "sorted" p) [a] [] pos) (upE C W (dCB rdSort ea)) :=
  de_cb (hK ▸ cr_sorted) lk_sort hm (by decide +kernel) ha hg (by decide) (by decide) he
/-- isinstance with a tuple of classes -/
abbrev rdIsiT : RA := fun xs M k => ∃ (x : D) (ns : List String), xs = [x, .tup (ns.map D.ty)] ∧ tyN x M ∈ tyL ∧ (∀ n ∈ ns, n ∈ tyL) ∧ k (.bl (ns.any fun n => isB (tyN x M) n))
theorem kitAny_of {K : PySem.W.Frag} {t : String} (ht : t ∈ tyL) : ∀ {ns : List String}, (∀ n ∈ ns, n ∈ tyL) → PySem.W.kitAny K (.type t) (ns.map Value.type) = some (ns.any fun n => isB t n)
  | [], _ => rfl
  | n :: ns, h => by
    rw [List.map_cons, List.any_cons]
    have e := kit_ty (K := K) (kit_tab t ht n (h n List.mem_cons_self))
    refine kitAny_cons e (fun e2 => ?_) fun e2 => by rw [e2]; rfl
    rw [e2]
    exact kitAny_of ht fun m hm => h m (List.mem_cons_of_mem _ hm)
theorem clsv_of {th : List Addr} {F : Hp} : ∀ {ns : List String} {vs : List V}, RepL C th F vs (ns.map D.ty) → Paired ClsV vs (ns.map Value.type)
  | [], _, .nil => .nil
  | n :: ns, _, .cons h r => by
    cases h
    exact .cons (.ty n) (clsv_of r)
theorem lk_isiT : LkA C (rIsiT C.K) rdIsiT := by
  rintro xs M k vs th F H Q hs rx ⟨x, ns, rfl, e1, e2, q⟩ kk
  obtain ⟨v, w, rfl, r, r2⟩ := rx.two'
  cases r2 with
  | @tup ad cs _ hf rs => exact ⟨v, ad, cs, .type (tyN x M), ns.map Value.type, _, rfl, hs.ex _ _ hf, clsv_of rs, tyx_at hs r e1, kitAny_of e1 e2, kk _ _ F H q hs Le.rfl (.bl _)⟩
theorem b_isiT (hm : X.mg "isinstance" = none) (ha : PA X [a, b] (upA C W ea)) (hK : X.K = C.K := by rfl) (hg : Gl X "isinstance" := by rfl) (he : starEach [a, b] X.env = (false, eval a X.env) :: starEach [b] X.env := by rfl) (hpl : (backTo pos (starEach [b] X.env)).any (·.1) = false := by rfl) :
    PE X (.Call (.Name "isinstance" p) [a, b] [] pos) (upE C W (dCB rdIsiT ea)) := de_cb (hK ▸ call_isiT) lk_isiT hm (by decide +kernel) ha hg (by decide) (by decide) he hpl
/-- is of truth values -/
abbrev rdIsB : D → D → MS → (D → Prop) → Prop := fun x y _ k => ∃ a b : Bool, x = .bl a ∧ y = .bl b ∧ k (.bl (decide (a = b)))
abbrev rdNotB : D → D → MS → (D → Prop) → Prop := fun x y _ k => ∃ a b : Bool, x = .bl a ∧ y = .bl b ∧ k (.bl (!decide (a = b)))
theorem lk_isb : Lk2 C rIsB rdIsB := by
  rintro x y M k v w th F H Q hs rx ry ⟨a, b, rfl, rfl, q⟩ kk
  cases rx
  cases ry
  exact ⟨a, b, rfl, rfl, kk _ _ F H q hs Le.rfl (.bl _)⟩
theorem lk_isnotb : Lk2 C rNotB rdNotB := by
  rintro x y M k v w th F H Q hs rx ry ⟨a, b, rfl, rfl, q⟩ kk
  cases rx
  cases ry
  exact ⟨a, b, rfl, rfl, kk _ _ F H q hs Le.rfl (.bl _)⟩
theorem e_isb (ha : PE X a (upE C W da)) (hb : PE X b (upE C W db)) : PE X (.Compare a [.Is] [b] pos) (upE C W (dOp rdIsB da db)) := de_cmp op_isBl lk_isb ha hb
theorem t_isb (ha : PE X a (upE C W da)) (hb : PE X b (upE C W db)) : PT X (.Compare a [.Is] [b] pos) (upT C W (dB (dOp rdIsB da db))) := dt_cmp op_isBl lk_isb ha hb
theorem e_isnotb (ha : PE X a (upE C W da)) (hb : PE X b (upE C W db)) : PE X (.Compare a [.IsNot] [b] pos) (upE C W (dOp rdNotB da db)) := de_cmp op_notBl lk_isnotb ha hb
theorem t_isnotb (ha : PE X a (upE C W da)) (hb : PE X b (upE C W db)) : PT X (.Compare a [.IsNot] [b] pos) (upT C W (dB (dOp rdNotB da db))) := dt_cmp op_notBl lk_isnotb ha hb
end
end PD

/-! PD: enumerate(tuple), the law's source of numbers. -/
namespace PySem
open Sem (wp)
theorem pd_enumNew (l : Addr) (items : Array Value) :
    Meets (Builtin.«enumerate.__new__» ⟨[.type "enumerate", .ref l], []⟩) (fun _ R s => s.heap.IsTuple l items ∧
      R (.ok (.ret (.ref (s.heap.push { cls := .type "tuple_iterator", data := .fields #[.ref l, .int 0 0] }).objs.size)))
        { s with heap := (s.heap.push { cls := .type "tuple_iterator", data := .fields #[.ref l, .int 0 0] }).push { cls := .type "enumerate", data := .fields #[.none, .bool false, .ref s.heap.objs.size, rawInt 0, .none, .none] } }) :=
  .of_wp fun prog w A R s h => by
    obtain ⟨hp, g, d, tk, os⟩ := s; obtain ⟨hl, h⟩ := h
    have hsub := sub_enumerate
    have hL : Heap.IsTuple (Shared.heap ⟨hp, g, d, tk, os⟩) l items := hl
    wp_walk using wpAny_pyIter_tuple hL
    refine wpAny_stack_any fun st => wpAny_pure ?_
    split
    · rename_i c _ _ _ _ _
      cases (c == Value.type "enumerate")
      · wp_walk using wpAny_pyIter_tuple hL
        exact ⟨_, rfl, h⟩
      · wp_walk using wpAny_pyIter_tuple hL
        exact ⟨_, rfl, h⟩
    · wp_walk using wpAny_pyIter_tuple hL
      exact ⟨_, rfl, h⟩
section
variable {prog : Program} {w : World} {A : Around} {E : Value → Shared → Prop} {s : Shared}
theorem pd_callEnum {l : Addr} {items : Array Value} {Q : Value → Shared → Prop} (hL : s.heap.IsTuple l items)
    (h : ∀ h', IsEnum h' (s.heap.objs.size + 1) s.heap.objs.size 0 .none → h'.IsTupleIter s.heap.objs.size l 0 → h'.objs.size = s.heap.objs.size + 2 →
      (∀ b o, s.heap.get? b = some o → h'.get? b = some o) → Q (.ref (s.heap.objs.size + 1)) { s with heap := h' }) :
    wpAny (model prog w) A (call (.type "enumerate") [.ref l]) Q E s := by
  refine callType_new F.called_enumerate (by decide) (F.typeCall_enumerate_1 _) (F.newCall_enumerate_1 _) (fun obj => F.args_object_init_2 obj _) F.entry_enumerate_new
    (pd_enumNew l items) ⟨hL, ?_⟩
  have hz : (s.heap.push { cls := .type "tuple_iterator", data := .fields #[.ref l, .int 0 0] }).objs.size = s.heap.objs.size + 1 := Heap.size_push ..
  show _ ∧ _
  rw [hz]
  have he : IsEnum ((s.heap.push { cls := .type "tuple_iterator", data := .fields #[.ref l, .int 0 0] }).push
      { cls := .type "enumerate", data := .fields #[.none, .bool false, .ref s.heap.objs.size, rawInt 0, .none, .none] }) (s.heap.objs.size + 1) s.heap.objs.size 0 .none := by
    have := Heap.get?_push_size (s.heap.push { cls := .type "tuple_iterator", data := .fields #[.ref l, .int 0 0] })
      (o := { cls := .type "enumerate", data := .fields #[.none, .bool false, .ref s.heap.objs.size, rawInt 0, .none, .none] }) rfl
    rw [hz] at this; exact this
  refine ⟨⟨_, he, rfl⟩, h _ he ⟨_, Heap.get?_push_of_some _ (Heap.get?_push_size _ rfl), rfl, rfl⟩ (by rw [Heap.size_push, hz]) fun b o x => Heap.get?_push_of_some _ (Heap.get?_push_of_some _ x)⟩
end
end PySem
namespace PD
open PySem PySem.Spec PyProof.Rows L2
/-- the tuple at a, each item in a new pair -/
def Iet (K : PySem.W.Frag) (a : Addr) : It :=
  ⟨fun i H => ∃ (xs : List V) (x : V), SqT K H a xs ∧ xs[i]? = some x, fun i H v H' => ∃ T x, v = .ref T ∧ H T = none ∧ H' = upd H T (.tup [.int (i : Nat), x]) ∧ ∀ xs, SqT K H a xs → xs[i]? = some x, fun i H => ∃ xs : List V, SqT K H a xs ∧ xs.length ≤ i⟩
theorem turn_enumT {P : Program} {w : World} {K : PySem.W.Frag} {elts : List Expr} {kk : Nat} {tpos : Pos} (a e it : Addr) :
    Turn P w K (.Tuple elts kk tpos) (Iet K a) [e, it] e (fun i h => (∃ old, IsEnum h e it ((i : Nat) : Int) old) ∧ h.IsTupleIter it a i ∧ e ≠ it ∧ a ≠ it ∧ a ≠ e) where
  mem := by simp
  obj := fun i h st b hb => by
    obtain ⟨⟨old, he⟩, ⟨o, ho, hc, hd⟩, _⟩ := st
    have e' : b = e ∨ b = it := by simpa using hb
    rcases e' with z | z
    · rw [z]; exact ⟨_, he, fun v q => nomatch q⟩
    · rw [z]; exact ⟨o, ho, fun v q => by rw [hd] at q; cases q⟩
  keep := fun i h h' st k => let ⟨⟨old, he⟩, hi, hne⟩ := st; ⟨⟨old, k e (by simp) _ he⟩, hi.at fun o q => k it (by simp) o q, hne⟩
  item := by
    intro X hP hw hK hc i pins s σ H E I hf st hg
    subst hP hw hK
    obtain ⟨⟨old, he⟩, hit, hne, hai, hae⟩ := st
    obtain ⟨xs, x, hq, hx⟩ := hg
    obtain ⟨its, rv, p, hz⟩ := I.tuple hq
    obtain ⟨u, hu, ru⟩ := rv.get hx
    have hel : e < s.heap.objs.size := Heap.lt_size he
    have hil : it < s.heap.objs.size := by obtain ⟨_, q, _⟩ := hit; exact Heap.lt_size q
    have D := Draws.tuple (prog := X.prog) (w := X.w) (A := X.A.in1) (I.ok.hd hc) it a hai its.toArray
    have hi : i < its.toArray.size := by
      have := (List.getElem?_eq_some_iff.mp hu).1
      rw [List.size_toArray]; exact this
    refine wpAny_pyNext_enum_itemC D he ⟨hit, p⟩ hi hne (by simp [hne, Ne.symm hae]) fun u' h' tk hP ho hst' hT hsz hk => ?_
    have eu : u' = u := by
      have q : its.toArray[i]? = some u := by simpa using hu
      rw [q] at hP
      exact (Option.some.inj hP).symm
    subst eu
    refine ⟨_, rfl, wpAny_letOwnedTupleGo_enum (s := { s with heap := h', toks := tk + 1 }) ho fun h'' he' sb => ?_⟩
    have hT2 : h''.get? s.heap.objs.size = some { cls := .type "tuple", data := .seq #[.int i tk, u'] } := (sb.2 _ (Nat.ne_of_gt hel)).trans hT
    have new : ObjOk X.prog X.w (upd H s.heap.objs.size (.tup [.int (i : Nat), x])) h'' s.heap.objs.size (.tup [.int (i : Nat), x]) :=
      ⟨by show 2 ≤ sizeLine; decide, [.int i tk, u'], .cons ⟨_, rfl⟩ (.cons ru .nil), ⟨_, hT2, rfl, _, rfl⟩⟩
    have I1 : Inv X pins σ (upd H s.heap.objs.size (.tup [.int (i : Nat), x])) { s with heap := h'', toks := tk + 1 } :=
      I.turnedNew (ch := [e, it]) (fun b ob hb q => (sb.2 b (fun z => hb (by simp [z]))).trans (hk b ob (fun z => hb (by simp [z])) (fun z => hb (by simp [z])) q)) hf (Nat.le_refl _) new
    refine ⟨.ref s.heap.objs.size, _, I1, rfl, ⟨_, x, rfl, I.hok.fresh (Nat.le_refl _), rfl, fun ys hy => by rw [I.tuple_inj hy hq]; exact hx⟩, ⟨⟨u', ?_⟩, hst'.1.at fun o q => (sb.2 it (Ne.symm hne)).trans q, hne, hai, hae⟩, fun b hb => ?_⟩
    · have e1 : ((i + 1 : Nat) : Int) = (i : Int) + 1 := by omega
      rw [e1]; exact he'
    · have hb' : b < s.heap.objs.size := by
        have e' : b = e ∨ b = it := by simpa using hb
        rcases e' with z | z
        · rw [z]; exact hel
        · rw [z]; exact hil
      rw [upd_ne (Nat.ne_of_lt hb')]
      exact (hf b hb).1
  done := by
    intro X hP hw hK hc i pins s σ H E I hf st hg
    subst hP hw hK
    obtain ⟨⟨old, he⟩, hit, hne, hai, hae⟩ := st
    obtain ⟨xs, hq, hx⟩ := hg
    obtain ⟨its, rv, p, hz⟩ := I.tuple hq
    obtain ⟨f0, f1, f2, f3, f4, f5⟩ := hf it (by simp)
    have hl := rv.length
    have hT : s.TypeIs (.ref e) "enumerate" := ⟨_, he, rfl⟩
    unfold pyNext
    refine wpAny_bind (wpAny_attempt (wpAny_callSpecial?_slot (name := Str.ofString "__next__") hT F.slot_enumerate_next
      (wpAny_call_entry F.slot_enumerate_next hT F.entry_enumerate_next ?_ (F.args_enumerate_next_1 _))))
    show wpAny _ _ (field (.ref e) 2 >>= _) _ _ _
    refine wpAny_bind (wpAny_field he rfl (x := .ref it) rfl ?_)
    refine wpAny_bind (wpAny_nextOf_tuple_end (A := X.A.in1) (I.ok.hd hc) hit p (by simp; omega) fun h' x he' hx' => ?_)
    obtain ⟨o, ho, hc⟩ := hx'
    refine wpAny_bind (wpAny_isInstance (T := "StopIteration") (b := true) ⟨o, ho, hc⟩ isSubtype_stop ?_)
    exact wpAny_pure ⟨rfl, I.turned (t' := s.toks) (fun b o hb q => he' b o hb q) f0 f1 f3 f4 f5⟩
  self := fun A i s Q E st h => let ⟨⟨_, he⟩, _⟩ := st; wpAny_pyIter_enum he h
def iEnumT (K : PySem.W.Frag) (ta : TA) : TI := fun σ H R => ta σ H fun vs H1 => ∃ a xs, vs = [.ref a] ∧ SqT K H1 a xs ∧ R (Iet K a) H1
theorem pi_enumT {X : Cx} {e : Expr} {ta : TA} {p pos tpos : Pos} {elts : List Expr} {kk : Nat} (hg : Gl X "enumerate") (hm : X.mg "enumerate" = none) (ha : PA X [e] ta) (hs : starEach [e] X.env = [(false, eval e X.env)] := by rfl) :
    PI X (.Tuple elts kk tpos) (.Call (.Name "enumerate" p) [e] [] pos) (iEnumT X.K ta) := by
  refine ⟨fun pins s σ H R I h => ?_⟩
  refine Call_ (ld_blt I hg hm boot_enumerate (PyProof.Rows.callWith_type1 (thn (ha.run pos pins s σ H _ I h) fun us s1 ⟨vs, H1, I1, r1, q1⟩ => ?_) hs rfl))
  obtain ⟨a, xs, ex, hq, q⟩ := q1
  subst ex
  cases r1 with
  | cons r rr =>
    cases rr
    cases r
    obtain ⟨its, rv, p', hz⟩ := I1.tuple hq
    have hlt : a < s1.heap.objs.size := p'.lt
    refine PySem.pd_callEnum p' fun h' he hit hsz hk => wpAny_pyIter_enum he ?_
    have I2 : Inv X pins σ H1 { s1 with heap := h' } := I1.kept (t' := s1.toks) hk
    refine ⟨s1.heap.objs.size + 1, [s1.heap.objs.size + 1, s1.heap.objs.size], _, _, H1, rfl, I2, turn_enumT a (s1.heap.objs.size + 1) s1.heap.objs.size, ⟨⟨.none, he⟩, hit, Nat.succ_ne_self _, Nat.ne_of_lt hlt, Nat.ne_of_lt (Nat.lt_succ_of_lt hlt)⟩, fun b hb => ?_, q⟩
    have e' : b = s1.heap.objs.size + 1 ∨ b = s1.heap.objs.size := by simpa using hb
    have hle : s1.heap.objs.size ≤ b := by
      rcases e' with z | z
      · rw [z]; exact Nat.le_add_right _ _
      · rw [z]; exact Nat.le_refl _
    exact I1.fpOk hle (I1.hok.fresh hle)
theorem walk_enumT {K : PySem.W.Frag} {a : Addr} {xs : List V} : Walk (Iet K a) xs.length (fun H => SqT K H a xs) (YPair (fun i => some (.int (i : Nat))) (fun i => xs[i]?)) := by
  refine ⟨fun i _ hi q => ⟨xs, xs[i], q, by simp [hi]⟩, fun _ q => ⟨xs, q, Nat.le_refl _⟩, fun i H v H' _ q y => ?_⟩
  obtain ⟨T, x, h1, h2, h3, h4⟩ := y
  exact ⟨T, .int (i : Nat), x, h1, h2, h3, rfl, h4 xs q⟩
def enumD (ys : List D) : List D := (List.range ys.length).map fun (i : Nat) => .tup [.int (i : Int), ys.getD i .non]
theorem enumD_get {ys : List D} {i : Nat} {d : D} (h : ys[i]? = some d) : (enumD ys)[i]? = some (.tup [.int (i : Int), d]) := by
  have hi := (List.getElem?_eq_some_iff.mp h).1
  unfold enumD
  rw [List.getElem?_map, List.getElem?_range hi]
  simp [List.getD, h]
theorem enumD_len (ys : List D) : (enumD ys).length = ys.length := by unfold enumD; rw [List.length_map, List.length_range]
theorem giv_pair {C : Cn} {th : List Addr} {F : Hp} {J : It} {xs : List V} {ys : List D} {G : Hp → Prop} (w : Walk J xs.length G (YPair (fun i => some (.int (i : Nat))) (fun i => xs[i]?))) (hg : ∀ H, Ex F H → G H) (r : RepL C th F xs ys) : Giv C th F J (enumD ys) := by
  refine ⟨G, _, by rw [enumD_len, ← RepL.len r]; exact w, hg, ?_⟩
  rintro i x H H' th1 F1 M1 hi ⟨T, x1, x2, rfl, hn, rfl, e1, e2⟩ hs l
  cases e1
  obtain ⟨d, e3, rd⟩ := r.getv e2
  have l2 : Le th1 F1 th1 (upd F1 T (.tup [.int (i : Nat), x2])) := Le.nw (hs.ex.fr hn)
  exact ⟨_, _, hs.new hn, l2, enumD_get e3, .tup upd_same (.cons (.int _) (.one ((rd.mono l).mono l2)))⟩
def iEnT (d : DA) : DIt := fun g M X k => d g M X fun xs M1 => ∃ ys, xs = [.tup ys] ∧ k (enumD ys) M1
def iEnL (d : DA) : DIt := fun g M X k => d g M X fun xs M1 => ∃ ys, xs = [.lst ys] ∧ k (enumD ys) M1
section
variable {X : Cx} {C : Cn} {W : WX} {a b : Expr} {da : DE} {ea : DA} {pos p tpos : Pos} {elts : List Expr} {kk : Nat}
theorem i_enT (hm : X.mg "enumerate" = none) (ha : PA X [a] (upA C W ea)) (hg : Gl X "enumerate" := by rfl) (hs : starEach [a] X.env = [(false, eval a X.env)] := by rfl) (hK : X.K = C.K := by rfl) : PI X (.Tuple elts kk tpos) (.Call (.Name "enumerate" p) [a] [] pos) (upI C W (iEnT ea)) := ⟨fun pins s σ H R I h => (pi_enumT hg hm ha hs).run pins s σ H R I (by
  obtain ⟨th, F, g, M, X', P, at_, h, ok, ex⟩ := h
  refine ⟨th, F, g, M, X', _, ⟨at_, fun xs M1 v t1 F1 H1 q hs l r => ?_, ex⟩, h⟩
  obtain ⟨ys, e, q⟩ := q
  subst e
  obtain ⟨v0, e0, r0⟩ := RepL.one' r
  subst e0
  cases r0 with
  | @tup ad vs _ hf rs => exact ⟨ad, vs, rfl, SqT.of (hs.ex _ _ hf), ok _ M1 t1 F1 H1 _ q hs l (giv_pair walk_enumT (fun H e => SqT.of (e _ _ hf)) rs)⟩)⟩
theorem i_enL (hm : X.mg "enumerate" = none) (ha : PA X [a] (upA C W ea)) (hg : Gl X "enumerate" := by rfl) (hs : starEach [a] X.env = [(false, eval a X.env)] := by rfl) (hK : X.K = C.K := by rfl) : PI X (.Tuple elts kk tpos) (.Call (.Name "enumerate" p) [a] [] pos) (upI C W (iEnL ea)) := ⟨fun pins s σ H R I h => (pi_enum hg hm ha hs).run pins s σ H R I (by
  obtain ⟨th, F, g, M, X', P, at_, h, ok, ex⟩ := h
  refine ⟨th, F, g, M, X', _, ⟨at_, fun xs M1 v t1 F1 H1 q hs l r => ?_, ex⟩, h⟩
  obtain ⟨ys, e, q⟩ := q
  subst e
  obtain ⟨v0, e0, r0⟩ := RepL.one' r
  subst e0
  cases r0 with
  | @lst ad vs _ hf rs => exact ⟨ad, vs, rfl, SqL.of (hs.ex _ _ hf), ok _ M1 t1 F1 H1 _ q hs l (giv_pair walk_enum (fun H e => SqL.of (e _ _ hf)) rs)⟩)⟩
end

/-! ### the law's source of numbers -/
/-- list + list, a cell -/
def dNewCat (da db : DE) : DE := fun g M X k => da g M X fun x M1 => db g M1 X fun y M2 => ∃ xs ys, lstOf x M2 = some xs ∧ lstOf y M2 = some ys ∧ xs.length + ys.length ≤ sizeLine ∧ k (.ptr M2.length) (M2 ++ [.lst (xs ++ ys)])
/-- a cell of ints becomes the source -/
def dToRng (d : DE) : DE := fun g M X k => d g M X fun y M1 => ∃ j ns, y = .ptr j ∧ M1[j]? = some (.lst (iL ns)) ∧ RngOk ns ∧ k y (M1.set j .rng)
/-- the source in slot i is read as a list of ints; behind an expression it is the source again -/
def sOpen (i : Nat) (s : DS) : DS := fun g M N => ∃ j, g[i]? = some (some (.ptr j)) ∧ M[j]? = some .rng ∧ ∀ ns, RngOk ns → s g (M.set j (.lst (iL ns))) N
def dShut (i : Nat) (d : DE) : DE := fun g M X k => d g M X fun y M1 => ∃ j ns, g[i]? = some (some (.ptr j)) ∧ M1[j]? = some (.lst (iL ns)) ∧ RngOk ns ∧ k y (M1.set j .rng)
/-- x.pop(i), x an own list -/
def dPopAt (dx di : DE) : DE := fun g M X k => dx g M X fun x M1 => ∃ (j : Nat) (zs : List D), x = .ptr j ∧ M1[j]? = some (.lst zs) ∧ di g M1 X fun i M2 => ∃ (xs : List D) (n : Int) (m : Nat) (y : D), M2[j]? = some (.lst xs) ∧ i = .int n ∧ 0 ≤ n ∧ n < 1000 ∧ seqIndex? n xs.length = some m ∧ xs[m]? = some y ∧ k y (M2.set j (.lst (xs.eraseIdx m)))
section
variable {C : Cn} {th : List Addr} {F H : Hp} {M : MS}
theorem Hs.same_cell (h : Hs C th F H M) {j : Nat} {c : Cell} {a : Addr} (ea : th[j]? = some a) (hc : CellAt C th F H a c) : Hs C th F H (M.set j c) := by
  refine ⟨h.ex, by rw [List.length_set]; exact h.len, h.nd, fun k c' b q1 q2 => ?_⟩
  by_cases e : j = k
  · subst e
    rw [ea] at q2
    cases q2
    have hk : j < M.length := by rw [← h.len]; exact (List.getElem?_eq_some_iff.mp ea).1
    rw [List.getElem?_set_self hk] at q1
    cases q1
    exact hc
  · rw [List.getElem?_set_ne e] at q1
    exact h.cell k c' b q1 q2
theorem to_rng {a : Addr} {ns : List Int} (h : CellAt C th F H a (.lst (iL ns))) (ok : RngOk ns) : CellAt C th F H a .rng := by
  obtain ⟨n, vs, hv, r⟩ := h
  exact ⟨n, ns, by rw [hv, r.ofI], ok⟩
theorem RepL.erase {vs : List V} {ds : List D} (r : RepL C th F vs ds) : ∀ n : Nat, RepL C th F (vs.eraseIdx n) (ds.eraseIdx n) := fun n => by
  rw [List.eraseIdx_eq_take_drop_succ, List.eraseIdx_eq_take_drop_succ]
  exact (r.take n).app (r.drop (n + 1))
end
section
variable {X : Cx} {C : Cn} {W : WX} {a b e : Expr} {da db : DE} {ds : DS} {pos : Pos}
theorem de_newCat (ha : PE X a (upE C W da)) (hb : PE X b (upE C W db)) : PE X (.BinOp a .Add b pos) (upE C W (dNewCat da db)) := pe_imp (pe_op op_cat ha hb) fun σ H Q h => by
  obtain ⟨th, F, g, M, X', P, p, h⟩ := h
  refine p.bind h fun x v t1 F1 H1 M1 h1 rx l1 p1 => p1.bind h1 fun y w t2 F2 H2 M2 h2 ry l2 p2 => ?_
  obtain ⟨xs, ys, e1, e2, hz, q⟩ := h2
  obtain ⟨ad, vs, rfl, ha, r1⟩ := lst_at p2.at_.hs (rx.mono l2) e1
  obtain ⟨bd, ws, rfl, hb, r2⟩ := lst_at p2.at_.hs ry e2
  exact ⟨ad, bd, vs, ws, rfl, rfl, ha, hb, by rw [RepL.len r1, RepL.len r2]; exact hz, fun q' hq => p2.cell hq (r1.app r2) q⟩
theorem rng_up : ∀ σ H Q, upE C W (dToRng da) σ H Q → upE C W da σ H Q := fun σ H Q h => by
  obtain ⟨th, F, g, M, X', P, p, h⟩ := h
  refine ⟨th, F, g, M, X', _, ⟨p.at_, fun y M1 v t1 F1 H1 q hs l r => ?_, p.ex⟩, h⟩
  obtain ⟨j, ns, e, em, ok, q⟩ := q
  subst e
  cases r with
  | @ptr ad _ et => exact p.ok _ _ _ t1 F1 H1 q (hs.same_cell et (to_rng (hs.cell _ _ _ em et) ok)) l (.ptr et)
theorem de_toRng (h : PE X e (upE C W da)) : PE X e (upE C W (dToRng da)) := pe_imp h rng_up
theorem de_shut (i : Nat) (h : PE X e (upE C W da)) : PE X e (upE C W (dShut i da)) := pe_imp h fun σ H Q h => by
  obtain ⟨th, F, g, M, X', P, p, h⟩ := h
  refine ⟨th, F, g, M, X', _, ⟨p.at_, fun y M1 v t1 F1 H1 q hs l r => ?_, p.ex⟩, h⟩
  obtain ⟨j, ns, eg, em, ok, q⟩ := q
  obtain ⟨u, _, ru⟩ := p.at_.sl.2 i _ eg
  cases ru with
  | @ptr ad _ et =>
    have et1 := l.pre _ _ et
    exact p.ok _ _ _ t1 F1 H1 q (hs.same_cell et1 (to_rng (hs.cell _ _ _ em et1) ok)) l r
theorem ss_open {st : List Stmt} (i : Nat) (h : PSs X st (upS C W ds)) : PSs X st (upS C W (sOpen i ds)) := pss_imp h fun De σ H h => by
  obtain ⟨th, F, g, M, N, a, k, j, eg, em, h⟩ := h
  obtain ⟨u, _, ru⟩ := a.sl.2 i _ eg
  cases ru with
  | @ptr ad _ et =>
    obtain ⟨n, ns, hv, ok⟩ := a.hs.cell _ _ _ em et
    exact ⟨th, F, g, _, N, ⟨a.hs.same_cell et (show CellAt C th F H ad (.lst (iL ns)) from ⟨n, _, hv, RepL.iL ns⟩), a.sl⟩, k, h ns ok⟩
theorem de_popAt {apos cpos : Pos} (ha : PE X a (upE C W da)) (hb : PE X b (upE C W db)) (hx : PE X (.Call (.Attribute a "pop" apos) [b] [] cpos) (tBM X.K "list" rPopAt (upE C W da) (tCons (upE C W db) tNil))) : PE X (.Call (.Attribute a "pop" apos) [b] [] cpos) (upE C W (dPopAt da db)) := pe_imp hx fun σ H Q h => by
  obtain ⟨th, F, g, M, X', P, p, h⟩ := h
  refine p.bind h fun x v t1 F1 H1 M1 h1 rx l1 p1 => ?_
  obtain ⟨j, zs, rfl, ez, q⟩ := h1
  cases rx with
  | @ptr ad _ et =>
    obtain ⟨_, vz, hz, _⟩ := p1.at_.hs.cell _ _ _ ez et
    refine ⟨.inl ⟨rfl, vz, SqL.of hz⟩, p1.bind q fun i w t2 F2 H2 M2 h2 ri l2 p2 => ?_⟩
    obtain ⟨xs, n, m, y, ex, rfl, hn0, hn1, hm, ey, q⟩ := h2
    cases ri
    have et2 := l2.pre _ _ et
    obtain ⟨nF, vs, hv, rv⟩ := p2.at_.hs.cell _ _ _ ex et2
    obtain ⟨u, eu, ru⟩ := rv.get ey
    refine ⟨ad, vs, n, m, u, rfl, rfl, hv, by omega, by omega, by rw [RepL.len rv]; exact hm, eu, ?_⟩
    exact p2.ok _ _ u t2 F2 _ q (p2.at_.hs.put et2 nF ⟨nF, _, upd_same, rv.erase m⟩) Le.rfl ru
end
end PD

/-! PDk: own errors. -/
namespace PySem
namespace ErrI
open PySem.W PySem.Calls PyProof.Rows PySem.HandSPX
/-! ### the text of __init__ -/
def iA (p1 p2 : Pos) : Arguments := { posonlyargs := [], args := [{ arg := "self", annotation := none, pos := p1 }, { arg := "index", annotation := none, pos := p2 }], vararg := none, kwonlyargs := [], kw_defaults := [], kwarg := none, defaults := [] }
def iB (q1 q2 q3 q4 : Pos) : List Stmt := [.Assign [.Attribute (.Name "self" q1) "index" q2] (.Name "index" q3) q4]
def iS : Scope := { kind := .function, names := [(PySem.Str.ofString "self", .local), (PySem.Str.ofString "index", .local)], isGenerator := false, isCoroutine := false, more := [] }
/-- what the written part says of Low, at C, and of its __init__, at fI -/
structure LowTxt (K : Frag) (mg : Str → Option Value) (nm qn : Str) (C fI : Addr) : Prop where
  gC : mg nm = some (.ref C)
  cls : ∃ nm1 q N bs bm sn sub ab col dd k0 k1 k2 k3 k5, K.lookup C = some (excClassObj nm1 q C N bs bm true sn sub ab col dd k0 k1 k2 k3 k5 "ValueError.__new__") ∧ refsVE bm = true
  sa : findIn K (.ref C) "__setattr__" = some (some (.builtin "object.__setattr__"))
  ga : findIn K (.ref C) "__getattribute__" = some (some (.builtin "BaseException.__getattribute__"))
  gg : findIn K (.ref C) "__getattr__" = some none
  noN : findIn K (.ref C) "index" = some none
  iC : findIn K (.ref C) "__init__" = some (some (.ref fI))
  tC : typeIn K (.ref fI) = some (.type "function")
  kC : keepIn K (.ref C) = true
  exC : subIn K (.ref C) (.type "BaseException") = some true
  tyC : typeIn K (.ref C) = some (.type "type")
  hdC : hasDictIn K C = true
  fn : ∃ (oc : Value) (od : Option Addr) (doc pm : Value) (an : Option Addr) (cdv ct : Value) (osl : Array (Option Value)) (p1 p2 q1 q2 q3 q4 : Pos),
    K.lookup fI = some ⟨oc, od, .func (fnOf "__init__" qn (iA p1 p2) (iB q1 q2 q3 q4) iS .none .none doc pm an cdv ct), osl⟩ ∧ codeIn K cdv qn = true
theorem one_size (v : Value) : [v].length ≤ sizeLine := by
  rw [sizeLine_eq]
  exact (by decide : 1 ≤ 16777216)
theorem kept_but {K : Frag} {h h' : Heap} {x : Addr} (X : K.In h) (hx : K.lookup x = none) (k : ∀ b o, b ≠ x → h.get? b = some o → h'.get? b = some o) : K.In h' := fun a o e =>
  k a o (fun z => by rw [z, hx] at e; cases e) (X a o e)
theorem ldC {M : Model} {s : Shared} {name : Str} {scope : Scope} {L a : Addr} {cd : Value} {m : Str → Option Value} {x : Str} {pos : Pos} {v : Value} {Q : Value → Shared → Prop} {A : Around} {E : Value → Shared → Prop} (hn : s.heap.Ns L m) (hv : m x = some v) (h : Q v s)
    (hk : scope.kind = .function := by rfl) (hl : (envOfC name scope L a cd).kindOf x = some .local := by rfl) (hd : (x == ("__debug__" : Str)) = false := by decide) :
    wpAny M A (eval (.Name x pos) (envOfC name scope L a cd)) Q E s := wpAny_Name (wpAny_loadName_local hk hl hn hv h) hd
/-- what __init__ leaves of a fresh exception at x -/
structure InitEnd (h h' : Heap) (x C dx t1 : Addr) (v : Value) : Prop where
  keep : ∀ b o, b ≠ x → h.get? b = some o → h'.get? b = some o
  obj : h'.get? x = some { cls := .ref C, dict := some dx, data := .fields #[.ref t1, .none, .none, .none, .bool false, .none] }
  dbig : h.objs.size ≤ dx
  dne : dx ≠ x
  ns : h'.Ns1 dx (fun y => if y = "index" then some v else none)
/-- a made Low -/
structure OwnMade (h h' : Heap) (e C d : Addr) (v : Value) : Prop where
  keep : ∀ b o, h.get? b = some o → h'.get? b = some o
  new : h.objs.size ≤ e
  obj : ∃ oe vs, h'.get? e = some oe ∧ oe.cls = .ref C ∧ oe.dict = some d ∧ oe.data = .fields vs ∧ vs[1]? = some .none
  dbig : h.objs.size ≤ d
  dne : d ≠ e
  ns : h'.Ns1 d (fun y => if y = "index" then some v else none)
section
variable {prog : Program} {w : World} {A : Around} {E : Value → Shared → Prop} {R : Result → Shared → Prop} {s : Shared} {K : Frag} {mg : Str → Option Value} {nm qn : Str} {C fI : Addr}
theorem low_init (T : LowTxt K mg nm qn C fI) {x t0 : Addr} {v : Value} (X : K.In s.heap) (hlim : s.heap.NoLimit) (hx : s.heap.get? x = some (excO C t0)) (hnx : K.lookup x = none) (hroom : A.depth < recursionLimit)
    (hq : ∀ h' tk dx, InitEnd s.heap h' x C dx t0 v → R (.ok (.ret .none)) { s with heap := h', toks := tk }) :
    codeAny (model prog w) A (.call (.ref fI) ⟨[.ref x, v], []⟩) R s := by
  obtain ⟨oc, od, doc, pm, an, cdv, ct, osl, p1, p2, q1, q2, q3, q4, ho, hcd⟩ := T.fn
  obtain ⟨nm1, q, N, bs, bm, sn, sub, ab, col, dd, k0, k1, k2, k3, k5, hC, hbm⟩ := T.cls
  have hcl : clsIn K C = some { name := nm1, bases := bs, mro := .ref C :: bm, ns := N, qualname := q, hasDict := true, slotNames := sn, subclasses := sub, abstract := ab, collection := col, hasDel := false } := by unfold clsIn; rw [hC] <;> rfl
  refine Att.call_fn (binds := [("self", .ref x), ("index", v)]) X hlim ho hcd hroom (BindsTo.of_eq (by first | rfl | with_unfolding_all rfl)) (by first | rfl | decide | with_unfolding_all rfl) (fun s₁ IC => ?_) rfl rfl rfl
  obtain ⟨h₁, tk₁, rfl⟩ := IC.toInCall.same
  have k : ∀ b o, s.heap.get? b = some o → h₁.get? b = some o := IC.toInCall.keep
  have hn := IC.toInCall.ns
  have hxL : s.heap.objs.size ≠ x := Nat.ne_of_gt (Heap.lt_size hx)
  have X₁ : K.In h₁ := X.keeps k
  have hx₁ := k _ _ hx
  -- self.by = by
  show wpAny _ _ (execs _ _) _ _ _
  refine wpAny_execs_cons (plainObj_wpAny_Assign_Attribute ?_)
  refine ldC (v := v) hn (by first | rfl | with_unfolding_all rfl | kernel_rfl) (ldC (v := .ref x) hn (by first | rfl | with_unfolding_all rfl | kernel_rfl) ?_)
  refine set_plain X₁ (ox := excO C t0) (od := none) ⟨hx₁, rfl, rfl, trivial⟩ T.sa ?_
  refine exc_osa X₁ hx₁ hcl (show refsVE (.ref C :: bm) = true from hbm) rfl T.noN (fun h₃ tk₃ dx k₃ dn dne hx₃ hn₃ => ?_)
  show wpAny _ _ (execs _ _) _ _ _
  have z : s.heap.objs.size < h₁.objs.size := hn.lt
  exact wpAny_execs_nil (hq h₃ tk₃ dx ⟨fun b o hb e => k₃ b o hb (k b o e), hx₃, Nat.le_of_lt (Nat.lt_of_lt_of_le z dn), dne, hn₃⟩)
theorem low_made (T : LowTxt K mg nm qn C fI) {v : Value} (X : K.In s.heap) (hlim : s.heap.NoLimit) (hroom : A.depth + 1 < recursionLimit)
    (hq : ∀ h' tk e d, OwnMade s.heap h' e C d v → R (.ok (.ret (.ref e))) { s with heap := h', toks := tk }) :
    codeAny (model prog w) A (.call (.ref C) ⟨[v], []⟩) R s := by
  obtain ⟨nm1, q, N, bs, bm, sn, sub, ab, col, dd, k0, k1, k2, k3, k5, hC, hbm⟩ := T.cls
  obtain ⟨hp, g, dr, tk, os⟩ := s
  have k : ∀ b o, hp.get? b = some o → ((hp.push (kdv_tup [v])).push (excO C hp.objs.size)).get? b = some o := fun b o e => Heap.get?_push_of_some _ (Heap.get?_push_of_some _ e)
  have hget : ((hp.push (kdv_tup [v])).push (excO C hp.objs.size)).get? (hp.objs.size + 1) = some (excO C hp.objs.size) := by heap_get
  have hnx : K.lookup (hp.objs.size + 1) = none := by
    cases e : K.lookup (hp.objs.size + 1) with
    | none => rfl
    | some o =>
      have z : hp.get? (hp.objs.size + 1) = some o := X _ _ e
      exact absurd (Nat.lt_of_succ_lt (Heap.lt_size z)) (Nat.lt_irrefl _)
  refine call_own F.excBase_ValueError (fun X => refsVE_contains X bm hbm) (X _ _ hC) (looks_findIn X T.iC) (fun self => bind_fn X self T.tC) (one_size v) ?_
  refine low_init (s := ⟨(hp.push (kdv_tup [v])).push (excO C hp.objs.size), g, dr, tk, os⟩) T (X.keeps k) (hlim.keeps k) hget hnx ?_ fun h' tk' dx ⟨k', hx, dn, dne, hns⟩ => ?_
  · show A.depth + 1 < recursionLimit
    exact hroom
  · have old : ∀ b o, hp.get? b = some o → h'.get? b = some o := fun b o e => k' b o (Nat.ne_of_lt (Nat.lt_succ_of_lt (Heap.lt_size e))) (k b o e)
    have z : hp.objs.size + 1 + 1 ≤ dx := by
      first
        | (simpa only [Heap.size_push] using dn)
        | exact dn
        | (have q := dn; rw [Heap.size_push, Heap.size_push] at q; exact q)
    exact ⟨rfl, hq h' tk' (hp.objs.size + 1) dx ⟨old, Nat.le_succ _, ⟨_, _, hx, rfl, rfl, rfl, rfl⟩, Nat.le_trans (Nat.le_trans (Nat.le_succ _) (Nat.le_succ _)) z, dne, hns⟩⟩
end
end ErrI
end PySem
namespace L2
open PySem PySem.Spec PyProof.Rows
theorem relO_low_I {v : V} {v' : Value} (r : RelV v v') (f : Str) : RelO (List.lookup f [(("index" : Str), v)]) (if f = "index" then some v' else none) := by
  by_cases hw : f = "index"
  · subst hw
    rw [if_pos rfl]
    have q : List.lookup ("index" : Str) [(("index" : Str), v)] = some v := by simp [List.lookup]
    rw [q]
    exact r
  · rw [if_neg hw]
    have qw : (f == ("index" : Str)) = false := by simpa using hw
    have q2 : List.lookup f [(("index" : Str), v)] = none := by simp [List.lookup, qw]
    rw [q2]
    trivial
section
variable {X : Cx} {nm qn : Str} {C fI : Addr}
/-- Low(e) -/
def tMkLow_I (C : Addr) (ta : TA) : St → Hp → XK → Prop := fun σ H Q => ta σ H fun vs H1 => ∃ v, vs = [v] ∧ ∀ d, H1 d = none → Q (.ref C) (some d) (upd H1 d (.xd [(("index" : Str), v)]))
theorem pmk_low_I {a : Expr} {ta : TA} {p pos : Pos} {k : Nat} (T : PySem.ErrI.LowTxt X.K X.mg nm qn C fI) (hr : Room k X.A) (ha : PA X [a] ta) (hdb : (nm == ("__debug__" : Str)) = false) (hg : Gl X nm := by rfl)
    (he : starEach (a :: []) X.env = (false, eval a X.env) :: starEach [] X.env := by rfl) (hpl : (backTo pos (starEach [] X.env)).any (·.1) = false := by rfl) :
    PMk X (.Call (.Name nm p) [a] [] pos) (tMkLow_I C ta) := by
  intro pins s σ H Q I h
  refine wpAny_Call_Name_kw (ld_glob I hg T.gC ?_ hdb)
  refine PySem.W.callWith_K (h₀ := X.base) I.ok.mod.kin T.kC (thn (ha.run pos pins s σ H _ I h) fun us s1 hh => ?_) he hpl
  obtain ⟨vs, H1, I1, r1, v, ev, q1⟩ := hh
  subst ev
  refine ⟨I1.kIn, ?_⟩
  cases r1 with
  | cons rv rn =>
    rename_i v' us'
    cases rn
    show wpAny _ _ (call (.ref C) [v']) _ _ _
    have hlim := I1.nolimit
    obtain ⟨hp, g, dr, tk, os⟩ := s1
    refine wpAny_call (PySem.ErrI.low_made T I1.kIn hlim (by have := hr.dp; omega) fun h' tk' e d M => ?_)
    show MkP X pins σ Q (.ref e) ⟨h', g, dr, tk', os⟩
    obtain ⟨oe, fv, hoe, hc, hd, hdat, h1⟩ := M.obj
    have hns := M.ns
    obtain ⟨G', g1, g2⟩ := restrict h' fun b => decide (b ≠ e)
    have gk : ∀ b, b ≠ e → G'.get? b = h'.get? b := fun b hb => g1 b (decide_eq_true hb)
    have ge : G'.get? e = none := g2 e (by simp)
    have old : ∀ b o, hp.get? b = some o → G'.get? b = some o := fun b o q => (gk b (Nat.ne_of_lt (Nat.lt_of_lt_of_le (Heap.lt_size q) M.new))).trans (M.keep b o q)
    have ob : ObjOk X.prog X.w (upd H1 d (.xd [(("index" : Str), v)])) G' d (.xd [(("index" : Str), v)]) :=
      ⟨_, hns.at (fun o q => (gk d M.dne).trans q), fun f => relO_low_I rv f⟩
    have J : Inv X pins σ (upd H1 d (.xd [(("index" : Str), v)])) ⟨G', g, dr, tk', os⟩ := I1.laid (t' := tk') old M.dbig ob
    refine ⟨e, oe, fv, ⟨G', g, dr, tk', os⟩, _, .ref C, some d, rfl, J, fun b o q => ?_, ge, hoe, ⟨hc, hd⟩, hdat, h1, ?_, rfl, I1.bare, raises_own T.exC T.tyC, q1 d (I1.hok.fresh M.dbig)⟩
    · by_cases hb : b = e
      · have q' : G'.get? b = some o := q
        rw [hb, ge] at q'; cases q'
      · exact (gk b hb).symm.trans q
    · rw [upd_ne (Ne.symm M.dne)]
      exact I1.hok.fresh M.new
/-- raise Low(e) -/
def tRaiseLow_I (C : Addr) (W : WX) (ta : TA) : TS := fun _ σ H => tMkLow_I C ta σ H fun cls d H' => W cls d σ H'
theorem ps_raiseLow_I {a : Expr} {ta : TA} {W : WX} {p pos pos2 : Pos} {k : Nat} (hc : X.calm = true) (T : PySem.ErrI.LowTxt X.K X.mg nm qn C fI) (hr : Room k X.A) (tk : Takes X W) (ha : PA X [a] ta) (hdb : (nm == ("__debug__" : Str)) = false) (hg : Gl X nm := by rfl)
    (he : starEach (a :: []) X.env = (false, eval a X.env) :: starEach [] X.env := by rfl) (hpl : (backTo pos (starEach [] X.env)).any (·.1) = false := by rfl) :
    PS X (.Raise (some (.Call (.Name nm p) [a] [] pos)) none pos2) (tRaiseLow_I C W ta) := ps_raise hc tk (pmk_low_I T hr ha hdb hg he hpl)
/-- low.by, low the exception that the suite holds (at a; its class cls, its dict d) -/
def tByLow_I (C : Addr) (a : Addr) (cls : Value) (d : Option Addr) (te : TE) : TE := fun σ H Q => te σ H fun x H1 => x = .ref a ∧ cls = .ref C ∧ ∃ (dd : Addr) (v : V), d = some dd ∧ H1 dd = some (.xd [(("index" : Str), v)]) ∧ Q v H1
theorem pe_byLow_I {a : Addr} {oe : Obj} {cls : Value} {d : Option Addr} {pn : List (Addr × Obj)} {e : Expr} {te : TE} {pos : Pos} (T : PySem.ErrI.LowTxt X.K X.mg nm qn C fI) (hz : Zc cls d oe) (hf : ∃ vs, oe.data = .fields vs) (he : PE (X.suite a ((a, oe) :: pn)) e te)
    (hb : attributeBase e "index" X.env (eval e X.env) = eval e X.env := by rfl) :
    PE (X.suite a ((a, oe) :: pn)) (.Attribute e "index" pos) (tByLow_I C a cls d te) := by
  refine ⟨fun pins s σ H Q I h => ?_⟩
  refine attr_of hb (thn (he.run pins s σ H _ I h) fun u s1 hh => ?_)
  obtain ⟨x, H1, I1, rx, ex, ec, dd, v, ed, ea, q⟩ := hh
  subst ex
  obtain rfl : u = Value.ref a := rx
  subst ec
  subst ed
  obtain ⟨ha, _⟩ := I1.pin (a, oe) (List.mem_append_left _ List.mem_cons_self)
  obtain ⟨vs, hd⟩ := hf
  have hx : ObjOk X.prog X.w H1 s1.heap dd (.xd [(("index" : Str), v)]) := I1.hok dd _ ea
  obtain ⟨mA, hns, hr⟩ := hx
  obtain ⟨od, ho, hl⟩ := lookIn_ns hns
  have l : List.lookup ("index" : Str) [(("index" : Str), v)] = some v := by simp [List.lookup]
  obtain ⟨u, hu, ru⟩ := RelO.some_of (v := v) (o := mA "index") (by rw [← l]; exact hr "index")
  have J : PySem.W.InstAt s1.heap a oe C (some od) := ⟨ha, hz.1, by unfold PySem.W.notCls; rw [hd] <;> rfl, by rw [hz.2]; exact ho⟩
  exact HandSPX.exc_get I1.kIn J T.ga T.gg T.exC (PySem.W.findObj_own T.hdC T.noN rfl (by rw [hl, hu])) (handed_of ru) ⟨v, H1, I1.tok _, ru, q⟩
end
end L2

namespace PySem
namespace ErrW
open PySem.W PySem.Calls PyProof.Rows PySem.HandSPX
/-! ### the text of __init__ -/
def iA (p1 p2 : Pos) : Arguments := { posonlyargs := [], args := [{ arg := "self", annotation := none, pos := p1 }, { arg := "word", annotation := none, pos := p2 }], vararg := none, kwonlyargs := [], kw_defaults := [], kwarg := none, defaults := [] }
def iB (q1 q2 q3 q4 : Pos) : List Stmt := [.Assign [.Attribute (.Name "self" q1) "word" q2] (.Name "word" q3) q4]
def iS : Scope := { kind := .function, names := [(PySem.Str.ofString "self", .local), (PySem.Str.ofString "word", .local)], isGenerator := false, isCoroutine := false, more := [] }
/-- what the written part says of Low, at C, and of its __init__, at fI -/
structure LowTxt (K : Frag) (mg : Str → Option Value) (nm qn : Str) (C fI : Addr) : Prop where
  gC : mg nm = some (.ref C)
  cls : ∃ nm1 q N bs bm sn sub ab col dd k0 k1 k2 k3 k5, K.lookup C = some (excClassObj nm1 q C N bs bm true sn sub ab col dd k0 k1 k2 k3 k5 "ValueError.__new__") ∧ refsVE bm = true
  sa : findIn K (.ref C) "__setattr__" = some (some (.builtin "object.__setattr__"))
  ga : findIn K (.ref C) "__getattribute__" = some (some (.builtin "BaseException.__getattribute__"))
  gg : findIn K (.ref C) "__getattr__" = some none
  noN : findIn K (.ref C) "word" = some none
  iC : findIn K (.ref C) "__init__" = some (some (.ref fI))
  tC : typeIn K (.ref fI) = some (.type "function")
  kC : keepIn K (.ref C) = true
  exC : subIn K (.ref C) (.type "BaseException") = some true
  tyC : typeIn K (.ref C) = some (.type "type")
  hdC : hasDictIn K C = true
  fn : ∃ (oc : Value) (od : Option Addr) (doc pm : Value) (an : Option Addr) (cdv ct : Value) (osl : Array (Option Value)) (p1 p2 q1 q2 q3 q4 : Pos),
    K.lookup fI = some ⟨oc, od, .func (fnOf "__init__" qn (iA p1 p2) (iB q1 q2 q3 q4) iS .none .none doc pm an cdv ct), osl⟩ ∧ codeIn K cdv qn = true
theorem one_size (v : Value) : [v].length ≤ sizeLine := by
  rw [sizeLine_eq]
  exact (by decide : 1 ≤ 16777216)
theorem kept_but {K : Frag} {h h' : Heap} {x : Addr} (X : K.In h) (hx : K.lookup x = none) (k : ∀ b o, b ≠ x → h.get? b = some o → h'.get? b = some o) : K.In h' := fun a o e =>
  k a o (fun z => by rw [z, hx] at e; cases e) (X a o e)
theorem ldC {M : Model} {s : Shared} {name : Str} {scope : Scope} {L a : Addr} {cd : Value} {m : Str → Option Value} {x : Str} {pos : Pos} {v : Value} {Q : Value → Shared → Prop} {A : Around} {E : Value → Shared → Prop} (hn : s.heap.Ns L m) (hv : m x = some v) (h : Q v s)
    (hk : scope.kind = .function := by rfl) (hl : (envOfC name scope L a cd).kindOf x = some .local := by rfl) (hd : (x == ("__debug__" : Str)) = false := by decide) :
    wpAny M A (eval (.Name x pos) (envOfC name scope L a cd)) Q E s := wpAny_Name (wpAny_loadName_local hk hl hn hv h) hd
/-- what __init__ leaves of a fresh exception at x -/
structure InitEnd (h h' : Heap) (x C dx t1 : Addr) (v : Value) : Prop where
  keep : ∀ b o, b ≠ x → h.get? b = some o → h'.get? b = some o
  obj : h'.get? x = some { cls := .ref C, dict := some dx, data := .fields #[.ref t1, .none, .none, .none, .bool false, .none] }
  dbig : h.objs.size ≤ dx
  dne : dx ≠ x
  ns : h'.Ns1 dx (fun y => if y = "word" then some v else none)
/-- a made Low -/
structure OwnMade (h h' : Heap) (e C d : Addr) (v : Value) : Prop where
  keep : ∀ b o, h.get? b = some o → h'.get? b = some o
  new : h.objs.size ≤ e
  obj : ∃ oe vs, h'.get? e = some oe ∧ oe.cls = .ref C ∧ oe.dict = some d ∧ oe.data = .fields vs ∧ vs[1]? = some .none
  dbig : h.objs.size ≤ d
  dne : d ≠ e
  ns : h'.Ns1 d (fun y => if y = "word" then some v else none)
section
variable {prog : Program} {w : World} {A : Around} {E : Value → Shared → Prop} {R : Result → Shared → Prop} {s : Shared} {K : Frag} {mg : Str → Option Value} {nm qn : Str} {C fI : Addr}
theorem low_init (T : LowTxt K mg nm qn C fI) {x t0 : Addr} {v : Value} (X : K.In s.heap) (hlim : s.heap.NoLimit) (hx : s.heap.get? x = some (excO C t0)) (hnx : K.lookup x = none) (hroom : A.depth < recursionLimit)
    (hq : ∀ h' tk dx, InitEnd s.heap h' x C dx t0 v → R (.ok (.ret .none)) { s with heap := h', toks := tk }) :
    codeAny (model prog w) A (.call (.ref fI) ⟨[.ref x, v], []⟩) R s := by
  obtain ⟨oc, od, doc, pm, an, cdv, ct, osl, p1, p2, q1, q2, q3, q4, ho, hcd⟩ := T.fn
  obtain ⟨nm1, q, N, bs, bm, sn, sub, ab, col, dd, k0, k1, k2, k3, k5, hC, hbm⟩ := T.cls
  have hcl : clsIn K C = some { name := nm1, bases := bs, mro := .ref C :: bm, ns := N, qualname := q, hasDict := true, slotNames := sn, subclasses := sub, abstract := ab, collection := col, hasDel := false } := by unfold clsIn; rw [hC] <;> rfl
  refine Att.call_fn (binds := [("self", .ref x), ("word", v)]) X hlim ho hcd hroom (BindsTo.of_eq (by first | rfl | with_unfolding_all rfl)) (by first | rfl | decide | with_unfolding_all rfl) (fun s₁ IC => ?_) rfl rfl rfl
  obtain ⟨h₁, tk₁, rfl⟩ := IC.toInCall.same
  have k : ∀ b o, s.heap.get? b = some o → h₁.get? b = some o := IC.toInCall.keep
  have hn := IC.toInCall.ns
  have hxL : s.heap.objs.size ≠ x := Nat.ne_of_gt (Heap.lt_size hx)
  have X₁ : K.In h₁ := X.keeps k
  have hx₁ := k _ _ hx
  -- self.by = by
  show wpAny _ _ (execs _ _) _ _ _
  refine wpAny_execs_cons (plainObj_wpAny_Assign_Attribute ?_)
  refine ldC (v := v) hn (by first | rfl | with_unfolding_all rfl | kernel_rfl) (ldC (v := .ref x) hn (by first | rfl | with_unfolding_all rfl | kernel_rfl) ?_)
  refine set_plain X₁ (ox := excO C t0) (od := none) ⟨hx₁, rfl, rfl, trivial⟩ T.sa ?_
  refine exc_osa X₁ hx₁ hcl (show refsVE (.ref C :: bm) = true from hbm) rfl T.noN (fun h₃ tk₃ dx k₃ dn dne hx₃ hn₃ => ?_)
  show wpAny _ _ (execs _ _) _ _ _
  have z : s.heap.objs.size < h₁.objs.size := hn.lt
  exact wpAny_execs_nil (hq h₃ tk₃ dx ⟨fun b o hb e => k₃ b o hb (k b o e), hx₃, Nat.le_of_lt (Nat.lt_of_lt_of_le z dn), dne, hn₃⟩)
theorem low_made (T : LowTxt K mg nm qn C fI) {v : Value} (X : K.In s.heap) (hlim : s.heap.NoLimit) (hroom : A.depth + 1 < recursionLimit)
    (hq : ∀ h' tk e d, OwnMade s.heap h' e C d v → R (.ok (.ret (.ref e))) { s with heap := h', toks := tk }) :
    codeAny (model prog w) A (.call (.ref C) ⟨[v], []⟩) R s := by
  obtain ⟨nm1, q, N, bs, bm, sn, sub, ab, col, dd, k0, k1, k2, k3, k5, hC, hbm⟩ := T.cls
  obtain ⟨hp, g, dr, tk, os⟩ := s
  have k : ∀ b o, hp.get? b = some o → ((hp.push (kdv_tup [v])).push (excO C hp.objs.size)).get? b = some o := fun b o e => Heap.get?_push_of_some _ (Heap.get?_push_of_some _ e)
  have hget : ((hp.push (kdv_tup [v])).push (excO C hp.objs.size)).get? (hp.objs.size + 1) = some (excO C hp.objs.size) := by heap_get
  have hnx : K.lookup (hp.objs.size + 1) = none := by
    cases e : K.lookup (hp.objs.size + 1) with
    | none => rfl
    | some o =>
      have z : hp.get? (hp.objs.size + 1) = some o := X _ _ e
      exact absurd (Nat.lt_of_succ_lt (Heap.lt_size z)) (Nat.lt_irrefl _)
  refine call_own F.excBase_ValueError (fun X => refsVE_contains X bm hbm) (X _ _ hC) (looks_findIn X T.iC) (fun self => bind_fn X self T.tC) (one_size v) ?_
  refine low_init (s := ⟨(hp.push (kdv_tup [v])).push (excO C hp.objs.size), g, dr, tk, os⟩) T (X.keeps k) (hlim.keeps k) hget hnx ?_ fun h' tk' dx ⟨k', hx, dn, dne, hns⟩ => ?_
  · show A.depth + 1 < recursionLimit
    exact hroom
  · have old : ∀ b o, hp.get? b = some o → h'.get? b = some o := fun b o e => k' b o (Nat.ne_of_lt (Nat.lt_succ_of_lt (Heap.lt_size e))) (k b o e)
    have z : hp.objs.size + 1 + 1 ≤ dx := by
      first
        | (simpa only [Heap.size_push] using dn)
        | exact dn
        | (have q := dn; rw [Heap.size_push, Heap.size_push] at q; exact q)
    exact ⟨rfl, hq h' tk' (hp.objs.size + 1) dx ⟨old, Nat.le_succ _, ⟨_, _, hx, rfl, rfl, rfl, rfl⟩, Nat.le_trans (Nat.le_trans (Nat.le_succ _) (Nat.le_succ _)) z, dne, hns⟩⟩
end
end ErrW
end PySem
namespace L2
open PySem PySem.Spec PyProof.Rows
theorem relO_low_W {v : V} {v' : Value} (r : RelV v v') (f : Str) : RelO (List.lookup f [(("word" : Str), v)]) (if f = "word" then some v' else none) := by
  by_cases hw : f = "word"
  · subst hw
    rw [if_pos rfl]
    have q : List.lookup ("word" : Str) [(("word" : Str), v)] = some v := by simp [List.lookup]
    rw [q]
    exact r
  · rw [if_neg hw]
    have qw : (f == ("word" : Str)) = false := by simpa using hw
    have q2 : List.lookup f [(("word" : Str), v)] = none := by simp [List.lookup, qw]
    rw [q2]
    trivial
section
variable {X : Cx} {nm qn : Str} {C fI : Addr}
/-- Low(e) -/
def tMkLow_W (C : Addr) (ta : TA) : St → Hp → XK → Prop := fun σ H Q => ta σ H fun vs H1 => ∃ v, vs = [v] ∧ ∀ d, H1 d = none → Q (.ref C) (some d) (upd H1 d (.xd [(("word" : Str), v)]))
theorem pmk_low_W {a : Expr} {ta : TA} {p pos : Pos} {k : Nat} (T : PySem.ErrW.LowTxt X.K X.mg nm qn C fI) (hr : Room k X.A) (ha : PA X [a] ta) (hdb : (nm == ("__debug__" : Str)) = false) (hg : Gl X nm := by rfl)
    (he : starEach (a :: []) X.env = (false, eval a X.env) :: starEach [] X.env := by rfl) (hpl : (backTo pos (starEach [] X.env)).any (·.1) = false := by rfl) :
    PMk X (.Call (.Name nm p) [a] [] pos) (tMkLow_W C ta) := by
  intro pins s σ H Q I h
  refine wpAny_Call_Name_kw (ld_glob I hg T.gC ?_ hdb)
  refine PySem.W.callWith_K (h₀ := X.base) I.ok.mod.kin T.kC (thn (ha.run pos pins s σ H _ I h) fun us s1 hh => ?_) he hpl
  obtain ⟨vs, H1, I1, r1, v, ev, q1⟩ := hh
  subst ev
  refine ⟨I1.kIn, ?_⟩
  cases r1 with
  | cons rv rn =>
    rename_i v' us'
    cases rn
    show wpAny _ _ (call (.ref C) [v']) _ _ _
    have hlim := I1.nolimit
    obtain ⟨hp, g, dr, tk, os⟩ := s1
    refine wpAny_call (PySem.ErrW.low_made T I1.kIn hlim (by have := hr.dp; omega) fun h' tk' e d M => ?_)
    show MkP X pins σ Q (.ref e) ⟨h', g, dr, tk', os⟩
    obtain ⟨oe, fv, hoe, hc, hd, hdat, h1⟩ := M.obj
    have hns := M.ns
    obtain ⟨G', g1, g2⟩ := restrict h' fun b => decide (b ≠ e)
    have gk : ∀ b, b ≠ e → G'.get? b = h'.get? b := fun b hb => g1 b (decide_eq_true hb)
    have ge : G'.get? e = none := g2 e (by simp)
    have old : ∀ b o, hp.get? b = some o → G'.get? b = some o := fun b o q => (gk b (Nat.ne_of_lt (Nat.lt_of_lt_of_le (Heap.lt_size q) M.new))).trans (M.keep b o q)
    have ob : ObjOk X.prog X.w (upd H1 d (.xd [(("word" : Str), v)])) G' d (.xd [(("word" : Str), v)]) :=
      ⟨_, hns.at (fun o q => (gk d M.dne).trans q), fun f => relO_low_W rv f⟩
    have J : Inv X pins σ (upd H1 d (.xd [(("word" : Str), v)])) ⟨G', g, dr, tk', os⟩ := I1.laid (t' := tk') old M.dbig ob
    refine ⟨e, oe, fv, ⟨G', g, dr, tk', os⟩, _, .ref C, some d, rfl, J, fun b o q => ?_, ge, hoe, ⟨hc, hd⟩, hdat, h1, ?_, rfl, I1.bare, raises_own T.exC T.tyC, q1 d (I1.hok.fresh M.dbig)⟩
    · by_cases hb : b = e
      · have q' : G'.get? b = some o := q
        rw [hb, ge] at q'; cases q'
      · exact (gk b hb).symm.trans q
    · rw [upd_ne (Ne.symm M.dne)]
      exact I1.hok.fresh M.new
/-- raise Low(e) -/
def tRaiseLow_W (C : Addr) (W : WX) (ta : TA) : TS := fun _ σ H => tMkLow_W C ta σ H fun cls d H' => W cls d σ H'
theorem ps_raiseLow_W {a : Expr} {ta : TA} {W : WX} {p pos pos2 : Pos} {k : Nat} (hc : X.calm = true) (T : PySem.ErrW.LowTxt X.K X.mg nm qn C fI) (hr : Room k X.A) (tk : Takes X W) (ha : PA X [a] ta) (hdb : (nm == ("__debug__" : Str)) = false) (hg : Gl X nm := by rfl)
    (he : starEach (a :: []) X.env = (false, eval a X.env) :: starEach [] X.env := by rfl) (hpl : (backTo pos (starEach [] X.env)).any (·.1) = false := by rfl) :
    PS X (.Raise (some (.Call (.Name nm p) [a] [] pos)) none pos2) (tRaiseLow_W C W ta) := ps_raise hc tk (pmk_low_W T hr ha hdb hg he hpl)
/-- low.by, low the exception that the suite holds (at a; its class cls, its dict d) -/
def tByLow_W (C : Addr) (a : Addr) (cls : Value) (d : Option Addr) (te : TE) : TE := fun σ H Q => te σ H fun x H1 => x = .ref a ∧ cls = .ref C ∧ ∃ (dd : Addr) (v : V), d = some dd ∧ H1 dd = some (.xd [(("word" : Str), v)]) ∧ Q v H1
theorem pe_byLow_W {a : Addr} {oe : Obj} {cls : Value} {d : Option Addr} {pn : List (Addr × Obj)} {e : Expr} {te : TE} {pos : Pos} (T : PySem.ErrW.LowTxt X.K X.mg nm qn C fI) (hz : Zc cls d oe) (hf : ∃ vs, oe.data = .fields vs) (he : PE (X.suite a ((a, oe) :: pn)) e te)
    (hb : attributeBase e "word" X.env (eval e X.env) = eval e X.env := by rfl) :
    PE (X.suite a ((a, oe) :: pn)) (.Attribute e "word" pos) (tByLow_W C a cls d te) := by
  refine ⟨fun pins s σ H Q I h => ?_⟩
  refine attr_of hb (thn (he.run pins s σ H _ I h) fun u s1 hh => ?_)
  obtain ⟨x, H1, I1, rx, ex, ec, dd, v, ed, ea, q⟩ := hh
  subst ex
  obtain rfl : u = Value.ref a := rx
  subst ec
  subst ed
  obtain ⟨ha, _⟩ := I1.pin (a, oe) (List.mem_append_left _ List.mem_cons_self)
  obtain ⟨vs, hd⟩ := hf
  have hx : ObjOk X.prog X.w H1 s1.heap dd (.xd [(("word" : Str), v)]) := I1.hok dd _ ea
  obtain ⟨mA, hns, hr⟩ := hx
  obtain ⟨od, ho, hl⟩ := lookIn_ns hns
  have l : List.lookup ("word" : Str) [(("word" : Str), v)] = some v := by simp [List.lookup]
  obtain ⟨u, hu, ru⟩ := RelO.some_of (v := v) (o := mA "word") (by rw [← l]; exact hr "word")
  have J : PySem.W.InstAt s1.heap a oe C (some od) := ⟨ha, hz.1, by unfold PySem.W.notCls; rw [hd] <;> rfl, by rw [hz.2]; exact ho⟩
  exact HandSPX.exc_get I1.kIn J T.ga T.gg T.exC (PySem.W.findObj_own T.hdC T.noN rfl (by rw [hl, hu])) (handed_of ru) ⟨v, H1, I1.tok _, ru, q⟩
end
end L2


/-! PDl: raise and try, over data. -/
namespace L2
open PySem PySem.Spec PyProof.Rows
section
variable {X : Cx} {C : Addr} {bmB : List Value} {B newId initId : String}
/-- X() -/
theorem pmk_own0 {x : Str} {p pos : Pos} (F : ExcBaseFacts B newId initId bmB) (q : PySem.W.excIn X.K C bmB newId = true) (gC : X.mg x = some (.ref C))
    (kC : PySem.W.keepIn X.K (.ref C) = true) (r : Raises X (.ref C)) (hdb : (x == ("__debug__" : Str)) = false) (hg : Gl X x := by rfl) :
    PMk X (.Call (.Name x p) [] [] pos) (fun σ H Q => Q (.ref C) none H) := by
  intro pins s σ H Q I h
  refine wpAny_Call_Name_kw (ld_glob I hg gC ?_ hdb)
  refine PySem.W.callWith_K0 I.kIn kC ?_
  show wpAny _ _ (call (.ref C) []) _ _ _
  obtain ⟨bm, N, nm, qn, bs, hdct, sn, sub, ab, col, dd, k0, k1, k2, k3, k5, mN, hC, hN, hni, T⟩ := exc_obj I.kIn q
  refine wpAny_call_exc_subT F T hC hN hni (fun h' e hm => ?_) (by show 0 ≤ sizeLine; exact Nat.zero_le _)
  exact mk_of I hm r h (I.hok.gone hm.new)
end
end L2
namespace PD
open PySem PySem.Spec PyProof.Rows L2
/-- an own error class without own __init__ -/
structure Er0 (K : PySem.W.Frag) (mg : Str → Option Value) (nm : Str) (c : Addr) : Prop where
  g : mg nm = some (.ref c)
  k : PySem.W.keepIn K (.ref c) = true
  q : PySem.W.excIn K c [.type "ValueError", .type "Exception", .type "BaseException", .type "object"] "ValueError.__new__" = true
  s : PySem.W.subIn K (.ref c) (.type "BaseException") = some true
  t : PySem.W.typeIn K (.ref c) = some (.type "type")
def sRaise0 (nm : Str) : DS := fun g M N => N.ex ⟨nm, none⟩ g M
def sRaise1 (nm fl : Str) (d : DE) : DS := fun g M N => d g M (fun e M' => N.ex e g M') fun y M' => N.ex ⟨nm, some (fl, y)⟩ g M'
section
variable {X : Cx} {C : Cn} {W : WX} {a : Expr} {da : DE} {nm qn : Str} {p pos pos2 : Pos} {k : Nat} {fI : Addr}
theorem s_raise0 (hc : X.calm = true) (tk : Takes X W) (E : Er0 X.K X.mg nm (C.cl nm)) (hdb : (nm == ("__debug__" : Str)) = false := by decide) (hg : Gl X nm := by rfl) : PS X (.Raise (some (.Call (.Name nm p) [] [] pos)) none pos2) (upS C W (sRaise0 nm)) :=
  ps_imp (ps_raise hc tk (pmk_own0 F.excBase_ValueError E.q E.g E.k (raises_own E.s E.t) hdb hg)) fun D σ H h => by
    obtain ⟨th, F, g, M, N, a, kk, h⟩ := h
    exact kk.ex _ g M σ th F H _ none h a Le.rfl ⟨rfl, rfl⟩
theorem raise1_up {fl : Str} (De : Ends) (σ : L2.St) (H : Hp) (h : upS C W (sRaise1 nm fl da) De σ H) : upA C W (dCons da dNil) σ H fun vs H1 => ∃ v, vs = [v] ∧ ∀ d, H1 d = none → W (.ref (C.cl nm)) (some d) σ (upd H1 d (.xd [(fl, v)])) := by
  obtain ⟨th, F, g, M, N, a, kk, h⟩ := h
  refine ⟨th, F, g, M, _, fun ys M' => ∃ y, ys = [y] ∧ N.ex ⟨nm, some (fl, y)⟩ g M', kk.pk (rel := rL C) a fun ys M' vs th' F' H' q hA l r => ?_, ?_⟩
  · obtain ⟨y, e, q⟩ := q
    subst e
    obtain ⟨v, e, rv⟩ := RepL.one' r
    subst e
    refine ⟨v, rfl, fun d hd => ?_⟩
    exact kk.ex _ g M' σ th' F' _ _ (some d) q ⟨hA.hs.grow (Ex.nw hd), hA.sl⟩ l ⟨rfl, d, v, rfl, upd_same, rv⟩
  · refine (?_ : da g M _ _)
    show da g M (fun e M' => N.ex e g M') fun x M1 => ∃ y, [x] = [y] ∧ N.ex ⟨nm, some (fl, y)⟩ g M1
    have e : (fun (x : D) (M1 : MS) => ∃ y, [x] = [y] ∧ N.ex ⟨nm, some (fl, y)⟩ g M1) = fun x M1 => N.ex ⟨nm, some (fl, x)⟩ g M1 := by
      funext x M1
      exact propext ⟨fun ⟨y, e, q⟩ => by injection e with e _; subst e; exact q, fun q => ⟨x, rfl, q⟩⟩
    rw [e]
    exact h
theorem s_raiseI (hc : X.calm = true) (tk : Takes X W) (hr : Room k X.A) (T : PySem.ErrI.LowTxt X.K X.mg nm qn (C.cl nm) fI) (ha : PE X a (upE C W da)) (hdb : (nm == ("__debug__" : Str)) = false := by decide) (hg : Gl X nm := by rfl)
    (he : starEach (a :: []) X.env = (false, eval a X.env) :: starEach [] X.env := by rfl) (hpl : (backTo pos (starEach [] X.env)).any (·.1) = false := by rfl) :
    PS X (.Raise (some (.Call (.Name nm p) [a] [] pos)) none pos2) (upS C W (sRaise1 nm "index" da)) :=
  ps_imp (ps_raiseLow_I hc T hr tk (da_cons ha da_nil he) hdb hg he hpl) fun De σ H h => raise1_up De σ H h
theorem s_raiseW (hc : X.calm = true) (tk : Takes X W) (hr : Room k X.A) (T : PySem.ErrW.LowTxt X.K X.mg nm qn (C.cl nm) fI) (ha : PE X a (upE C W da)) (hdb : (nm == ("__debug__" : Str)) = false := by decide) (hg : Gl X nm := by rfl)
    (he : starEach (a :: []) X.env = (false, eval a X.env) :: starEach [] X.env := by rfl) (hpl : (backTo pos (starEach [] X.env)).any (·.1) = false := by rfl) :
    PS X (.Raise (some (.Call (.Name nm p) [a] [] pos)) none pos2) (upS C W (sRaise1 nm "word" da)) :=
  ps_imp (ps_raiseLow_W hc T hr tk (da_cons ha da_nil he) hdb hg he hpl) fun De σ H h => raise1_up De σ H h
end
end PD

/-! PDm: how a text's defs are told of; the end. -/
namespace PD
open PySem PySem.Spec PyProof.Rows L2
section
variable {P : Program} {w : World} {K : PySem.W.Frag} {mg : Str → Option Value} {base : Heap} {C : Cn}
/-- THE RULE for a def: its body's derivation, and the promise without a heap -/
theorem fn_okF {x qual : Str} {st : Stmt} {f : Addr} {fd : FuncData} {N ps : List Str} {k : Nat} {s : DSp} {d : DS} {dvs : List V} (F : FunD K x qual (defArgs st) (defBody st) (defScope st) dvs [] f fd) (S : FnScope N ps (defScope st)) (len : ∀ ys M X P, s ys M X P → ys.length = ps.length)
    (hbody : ∀ (cdv : Value) (A : Around) (outer : List Env) (sh : Shared) (H : Hp) (E : XK), Room k (A.deeper (envOfC qual (defScope st) sh.heap.objs.size f cdv)) →
      PSs (cxOf (L2.CX P w) P w K mg base N qual (defScope st) f cdv A outer sh H E) (defBody st) (upS C (fun cls dd _ H' => E cls dd H') d))
    (pure : ∀ ys M X P, s ys M X P → d (startD N.length ys) M (bodyN M.length X P)) : FnOk P w K mg base (L2.CX P w) (k + 1) f fd ps (upSp C s) := by
  refine F.ok (CX := L2.CX P w) S (fun vs H Q E h => ?_) (fun cdv A outer sh H vs Q E hr h => ?_)
  · obtain ⟨th, F', M, ys, X, P', hs, r, h, _⟩ := h
    rw [RepL.len r]
    exact len _ _ _ _ h
  · obtain ⟨th, F', M, ys, X, P', hs, r, h, ok, ex⟩ := h
    refine ⟨_, hbody cdv A outer sh H E hr, th, F', startD N.length ys, M, bodyN M.length X P', ⟨hs, start_sl r⟩, ?_, pure ys M X P' h⟩
    · have rt : ∀ (y : D) (M' : MS) (v : V) (th' : List Addr) (F1 H' : Hp), Ret P' M.length y M' → Hs C th' F1 H' M' → Le th F' th' F1 → Rep C th' F1 v y → Q v H' := by
        intro y M' v th' F1 H' q h' l r'
        cases q with
        | same q => exact ok y M' v th' F1 H' q h' l r'
        | @drop M0 L e hn hc cy q =>
          subst e
          exact ok y M0 v _ F1 H' q (h'.pop hc) (le_take l (by rw [hs.len]; exact hn)) (Rep.cut cy r')
      refine ⟨fun g M' σ th' F1 H' q a l => rt .non M' .non th' F1 H' q a.hs l .non, rt, fun _ _ _ _ _ _ q => q.elim, fun _ _ _ _ _ _ q => q.elim, fun e g M' σ th' F1 H' cls dd q a l x => ?_⟩
      cases q with
      | same q => exact ex e M' th' F1 H' cls dd q a.hs l x
      | @drop M0 L e0 hn hc cy q =>
        subst e0
        refine ex e M0 _ F1 H' cls dd q (a.hs.pop hc) (le_take l (by rw [hs.len]; exact hn)) ?_
        obtain ⟨x1, x2⟩ := x
        refine ⟨x1, ?_⟩
        cases hf : e.fld with
        | none => rw [hf] at x2; exact x2
        | some fy =>
          obtain ⟨f, y⟩ := fy
          rw [hf] at x2
          obtain ⟨ad, v, h1, h2, h3⟩ := x2
          exact ⟨ad, v, h1, h2, Rep.cut (cy f y hf) h3⟩

theorem fn_false {CX : CXT} {k : Nat} {f : Addr} {fd : FuncData} {ps : List Str} : FnOk P w K mg base CX k f fd ps (upSp C fun _ _ _ _ => False) :=
  ⟨fun vs H Q E ⟨_, _, _, _, _, _, _, _, h, _⟩ => h.elim, fun A outer s H args us vs Q E _ _ _ _ ⟨_, _, _, _, _, _, _, _, h, _⟩ => h.elim⟩
/-- a def of the text, told of: its name in the module, its arguments, its defaults -/
structure Dn (K : PySem.W.Frag) (mg : Str → Option Value) (nm : Str) (st : Stmt) (ps : List Str) (dvs : List V) (ds : List Value) (f : Addr) (fd : FuncData) : Prop where
  fn : FunD K nm nm (defArgs st) (defBody st) (defScope st) dvs [] f fd
  g : mg nm = some (.ref f)
  b : Binds K fd ps []
  bd : Binds K fd ps ds
  vd : Vals dvs ds
theorem fnd_mk {nm qual : Str} {st : Stmt} {f : Addr} {od an : Option Addr} {sl : Array (Option Value)} {oc kV dc pm cd ct : Value} (l : K.lookup f = some ⟨oc, od, .func (PySem.W.fnOf nm qual (defArgs st) (defBody st) (defScope st) .none kV dc pm an cd ct), sl⟩) (c : PySem.W.codeIn K cd qual = true) (k : PySem.W.keepIn K (.ref f) = true) :
    FunD K nm qual (defArgs st) (defBody st) (defScope st) [] [] f (PySem.W.fnOf nm qual (defArgs st) (defBody st) (defScope st) .none kV dc pm an cd ct) :=
  ⟨⟨oc, od, .none, kV, dc, pm, an, cd, ct, sl, rfl, l, c, .inl ⟨rfl, rfl⟩, .inl rfl⟩, k⟩
/-- one default, an int -/
theorem fnd_mk1 {nm qual : Str} {st : Stmt} {f T : Addr} {od an : Option Addr} {sl : Array (Option Value)} {oc kV dc pm cd ct : Value} {o : Obj} {i : Int} {t : Tok} {n : Nat} (l : K.lookup f = some ⟨oc, od, .func (PySem.W.fnOf nm qual (defArgs st) (defBody st) (defScope st) (.ref T) kV dc pm an cd ct), sl⟩) (c : PySem.W.codeIn K cd qual = true) (k : PySem.W.keepIn K (.ref f) = true)
    (lT : K.lookup T = some o) (oT : o.data = .seq #[.int i t] n) : FunD K nm qual (defArgs st) (defBody st) (defScope st) [.int i] [] f (PySem.W.fnOf nm qual (defArgs st) (defBody st) (defScope st) (.ref T) kV dc pm an cd ct) :=
  ⟨⟨oc, od, .ref T, kV, dc, pm, an, cd, ct, sl, rfl, l, c, .inr ⟨by simp, T, o, [.int i t], n, rfl, lT, oT, .cons ⟨t, rfl⟩ .nil⟩, .inl rfl⟩, k⟩
/-- what is told of the class Game -/
structure Gm (P : Program) (w : World) (K : PySem.W.Frag) (mg : Str → Option Value) (base : Heap) (C : Addr) (fI : Addr) (dI : FuncData) where
  cl : Cls K C
  gC : mg "Game" = some (.ref C)
  mkg : Mk K C fI
  bi : Binds K dI ["self", "children", "parts", "steps"] []
  (pc pp ps gc gp gs : Addr)
  (dc dp ds : FuncData)
  p_children : PropOf K C "children" pc gc
  p_parts : PropOf K C "parts" pp gp
  p_steps : PropOf K C "steps" ps gs
  k_children : FnOk P w K mg base (L2.CX P w) 1 gc dc ["self"] (getSp C "size")
  k_parts : FnOk P w K mg base (L2.CX P w) 1 gp dp ["self"] (getSp C "share")
  k_steps : FnOk P w K mg base (L2.CX P w) 1 gs ds ["self"] (getSp C "ways")
  b_children : Binds K dc ["self"] []
  b_parts : Binds K dp ["self"] []
  b_steps : Binds K ds ["self"] []
  n_size : NoAttr K C "size"
  n_share : NoAttr K C "share"
  n_ways : NoAttr K C "ways"
/-- the promise of the law, over the heap -/
def spTop (K : PySem.W.Frag) : Sp := fun vs H Q _ => ∃ (a : Addr) (ns : List Int), vs = [.ref a] ∧ SqL K H a (ns.map V.int) ∧ ns.length ≤ 63 ∧ ∀ H', Q (.bl true) H'
theorem top_imp {C : Cn} {s : DSp} (h : ∀ (l : List Int) (X : EK) (k : D → MS → Prop), l.length ≤ 63 → (∀ M', k (.bl true) M') → s [.scr l] [] X k) : ∀ vs H Q E, spTop C.K vs H Q E → upSp C s vs H Q E := fun vs H Q E ⟨a, ns, e, hS, hl, q⟩ => by
  subst e
  refine ⟨[], H, [], [.scr ns], fun _ _ => False, fun y _ => y = .bl true, ⟨Ex.rfl, rfl, List.nodup_nil, fun k c a' e _ => by simp at e⟩, .one (.scr hS), h ns _ _ hl fun _ => rfl, ?_, fun _ _ _ _ _ _ _ z => z.elim⟩
  rintro y M' v th' F' H' rfl hs l r
  cases r
  exact q H'
end
theorem walkL {l : PySem.W.OpenLaw} {k : Nat} {x : Str} {q : Program} {loose : List Str} {XP : (Str → Option Value) → Heap → Prop} {YP : World → Heap → Prop} {d : DefRec} {K : Params → PySem.W.Frag} (hn : l.most = some 63) (hdf : d.params.defaults = []) (hr : Room k callerA)
    (hY : ∀ (w : World) (h : Heap), YP w h → (K w.params).In h)
    (F : ∀ (w : World) (mg : Str → Option Value) (fa : Addr) (h : Heap), (K w.params).In h → h.Ns mainGlobals mg → mg d.name = some (.ref fa) →
      ∃ fd : FuncData, (∀ (s : Shared) (u : Value), BindsTo s fd ⟨[u], []⟩ [(x, u)]) ∧ ∀ base : Heap, (K w.params).In base → base.Ns mainGlobals mg → FnOk l.prog w (K w.params) mg base (L2.CX l.prog w) k fa fd [x] (spTop (K w.params))) :
    PySem.W.WalkO q loose XP YP l.row.toRowW d [] (fun f vs => PySem.call f vs) :=
  L2.walk_of (n := 63) (k := k) (x := x) (CX := fun w => L2.CX l.prog w) (sp := fun w => spTop (K w.params)) hn (by decide) hdf hr hY F (fun _ _ a ns hl _ hS => ⟨a, ns, rfl, hS, hl, fun _ => rfl⟩) fun _ _ _ _ _ ⟨_, _, _, _, _, _, _, _, _, _, _, _, z⟩ => z.elim
end PD

/-! PDn: try with several clauses, each with or without a name; over data. -/
namespace PD
open PySem PySem.Spec PyProof.Rows L2
/-- a clause: the class that it names, the slot of its name (if any), its suite -/
structure Kl where
  c : Value
  o : Option Nat
  ts : Addr → Value → Option Addr → TS
def Kl.ends (k : Kl) (De : Ends) : Ends := match k.o with
  | none => De
  | some i => { nx := fun σ H => De.nx (σ.set i none) H, rt := De.rt, bk := fun σ H => De.bk (σ.set i none) H, ct := fun σ H => De.ct (σ.set i none) H }
def Kl.sts (k : Kl) (a : Addr) (σ : L2.St) : L2.St := match k.o with
  | none => σ
  | some i => σ.set i (some (.ref a))
def wKl (K : PySem.W.Frag) (Wo : WX) (De : Ends) : List Kl → WX
  | [] => Wo
  | k :: r => fun cls d σ H => ∃ b, PySem.W.exmOne K cls k.c = some b ∧ (b = true → ∀ a, H a = none → k.ts a cls d (k.ends De) (k.sts a σ) H) ∧ (b = false → wKl K Wo De r cls d σ H)
/-- the text's clauses and what is told of them -/
inductive Kls (X : Cx) : List ExceptHandler → List Kl → Prop
  | nil : Kls X [] []
  | plain {x : Str} {c : Value} {ts : Addr → Value → Option Addr → TS} {b : Stmt} {bs : List Stmt} {p q : Pos} {hds : List ExceptHandler} {l : List Kl} : Names X x c →
      (∀ (a : Addr) (oe : Obj) (cls : Value) (d : Option Addr) (pn : List (Addr × Obj)), Zc cls d oe → (∃ vs, oe.data = .fields vs) → PSs (X.suite a ((a, oe) :: pn)) (b :: bs) (ts a cls d)) → Kls X hds l → Kls X (.ExceptHandler (some (.Name x p)) none (b :: bs) q :: hds) (⟨c, none, ts⟩ :: l)
  | named {x n : Str} {c : Value} {i : Nat} {ts : Addr → Value → Option Addr → TS} {b : Stmt} {bs : List Stmt} {p q : Pos} {hds : List ExceptHandler} {l : List Kl} : Names X x c → X.N[i]? = some n → X.env.kindOf n = some .local →
      (∀ (a : Addr) (oe : Obj) (cls : Value) (d : Option Addr) (pn : List (Addr × Obj)), Zc cls d oe → (∃ vs, oe.data = .fields vs) → PSs (X.suite a ((a, oe) :: pn)) (b :: bs) (ts a cls d)) → Kls X hds l → Kls X (.ExceptHandler (some (.Name x p)) (some n) (b :: bs) q :: hds) (⟨c, some i, ts⟩ :: l)
section
variable {X : Cx} {body : List Stmt} {hd : ExceptHandler} {hds : List ExceptHandler} {l : List Kl} {pos : Pos} {tb : WX → TS} {Wo : WX}
theorem name_at {c : Value} {x : Str} {a : Addr} {oe : Obj} {pn : List (Addr × Obj)} {pins : List (Addr × Obj)} {σ : L2.St} {H : Hp} {s : Shared} {p : Pos} {Q : Value → Shared → Prop} {E : Value → Shared → Prop} (hc : Names X x c) (S : Inv (X.suite a ((a, oe) :: pn)) pins σ H s) (q : Q c s) :
    wpAny (model X.prog X.w) (X.A.mark (some (.ref a))) (eval (.Name x p) X.env) Q E s := by
  obtain ⟨hg, hdb, h⟩ := hc
  rcases h with hm | ⟨hm, hv, hn⟩
  · exact ld_glob (X := X.suite a ((a, oe) :: pn)) S hg hm q hdb
  · exact ld_blt (X := X.suite a ((a, oe) :: pn)) S hg hm hv q hn hdb
theorem flow_out {pins : List (Addr × Obj)} {De : Ends} {pn : List (Addr × Obj)} {xe : Value → Shared → Prop} {f : Flow} {s : Shared} (unTry : ∀ {σ : L2.St} {H : Hp}, Inv (X.tr pn xe) [] σ H s → Inv X pins σ H s) (h : SP (X.tr pn xe) [] De f s) : SP X pins De f s := by
  cases f
  case ret u => exact let ⟨v, σ, H, J, r, q⟩ := h; ⟨v, σ, H, unTry J, r, q⟩
  all_goals exact let ⟨σ, H, J, q⟩ := h; ⟨σ, H, unTry J, q⟩
/-- what is known of an exception at a that has landed: the state as it was (I0, up to slots), the heap now -/
structure Cgt (X : Cx) (pins : List (Addr × Obj)) (σ : L2.St) (H : Hp) (cls : Value) (d : Option Addr) (a : Addr) (B : Heap) (I0 s : Shared) : Prop where
  inv : Inv X pins σ H I0
  low : ∀ b o, I0.heap.get? b = some o → b ∉ frs X.stack → B.get? b = some o
  ups : I0.heap.UpToSlots s.heap
  fly : HandSPX.FlyingZ B (X.env :: X.outer) a (Zc cls d) s.heap
  out : H a = none
  os : s.os = I0.os
  bare : AllBare s.gens
theorem Cgt.now {pins : List (Addr × Obj)} {σ : L2.St} {H : Hp} {cls : Value} {d : Option Addr} {a : Addr} {B : Heap} {I0 s : Shared} (c : Cgt X pins σ H cls d a B I0 s) : Inv X pins σ H s := Inv.landed c.inv c.low c.fly.1 c.ups c.os c.bare
theorem Cgt.at_suite {pins : List (Addr × Obj)} {σ : L2.St} {H : Hp} {cls : Value} {d : Option Addr} {a : Addr} {B : Heap} {I0 s : Shared} (c : Cgt X pins σ H cls d a B I0 s) (hf : X.env.frame = some X.env.locals) :
    ∃ oe vs, s.heap.get? a = some oe ∧ Zc cls d oe ∧ oe.data = .fields vs ∧ Inv (X.suite a ((a, oe) :: (X.pn ++ pins))) [] σ H s := by
  obtain ⟨oe, vs, h1, h2, h3⟩ := c.fly.there
  have away : a ∉ frs (X.env :: X.outer) := fun hm => by
    obtain ⟨_, o, ho, hn⟩ := c.fly.2.2.1.mem hm
    rw [h1] at ho
    cases ho
    exact hn _ h3
  refine ⟨oe, vs, h1, h2, h3, c.now.suite h1 h3 c.out (fun z => away ?_) fun hm => ?_⟩
  · exact List.mem_filterMap.mpr ⟨X.env, List.mem_cons_self, by rw [hf, z]⟩
  · obtain ⟨e, he, q⟩ := List.mem_filterMap.mp hm
    exact away (List.mem_filterMap.mpr ⟨e, List.mem_cons_of_mem _ he, q⟩)
theorem Cgt.on {pins : List (Addr × Obj)} {σ : L2.St} {H : Hp} {cls : Value} {d : Option Addr} {a : Addr} {B : Heap} {I0 s : Shared} (c : Cgt X pins σ H cls d a B I0 s) {h : Heap} (f : HandSPX.FlyingZ B (X.env :: X.outer) a (Zc cls d) h) (u : s.heap.UpToSlots h) :
    Cgt X pins σ H cls d a B I0 { s with heap := h } := ⟨c.inv, c.low, c.ups.trans u, f, c.out, c.os, c.bare⟩
/-- no clause is left: it goes on -/
theorem Cgt.passes {pins : List (Addr × Obj)} {σ : L2.St} {H : Hp} {cls : Value} {d : Option Addr} {a : Addr} {B : Heap} {I0 s : Shared} {De : Ends} (hs : X.stack = X.env :: X.outer) (hf : X.env.frame = some X.env.locals) (tk : Takes X Wo)
    (c : Cgt X pins σ H cls d a B I0 s) (w : Wo cls d σ H) : wpAny (model X.prog X.w) X.A (handleBy (.ref a) X.env []) (SP X pins De) X.xe s := by
  refine wpAny_handleBy_nil ?_
  obtain ⟨_, _, _, oe, vs, T, _, _, h1, _, h2, h3, _⟩ := id c.fly
  have last : wpAny (model X.prog X.w) X.A (setFlight (.ref a) X.env.frame) (fun _ s4 => wpAny (model X.prog X.w) X.A (throw (.ref a) : Sem Flow) (SP X pins De) X.xe s4) X.xe s := by
    rw [hf]
    refine HandSPX.setFlight_upZ c.fly fun h hh u => wpAny_throw (tk _ _ ⟨a, B, I0, pins, σ, H, cls, d, rfl, c.inv, c.low, c.ups.trans u, .inr (.inr ?_), c.out, c.os, c.bare, w⟩)
    rw [hs]
    exact hh
  unfold PySem.passOn
  refine wpAny_bind (wpAny_field h1 h2 h3 ?_)
  rw [if_neg (show ¬ ((Value.ref T == Value.none) = true) by simp)]
  first
    | exact wpAny_bind (wpAny_pure (wpAny_bind last))
    | exact wpAny_bind last
theorem Cgt.suite_end {pins : List (Addr × Obj)} {q : Addr × Obj} {a : Addr} {De : Ends} {f : Flow} {s : Shared} (ok : X.Ok) (h : SP (X.suite a (q :: (X.pn ++ pins))) [] De f s) : SP X pins De f s := by
  cases f
  case ret u => exact let ⟨v, σ, H, J, r, z⟩ := h; ⟨v, σ, H, J.unsuite ok, r, z⟩
  all_goals exact let ⟨σ, H, J, z⟩ := h; ⟨σ, H, J.unsuite ok, z⟩
theorem Cgt.handled {pins : List (Addr × Obj)} {σ : L2.St} {H : Hp} {cls : Value} {d : Option Addr} {a : Addr} {B : Heap} {I0 s : Shared} {De : Ends} (hN : X.N.Nodup) (hs : X.stack = X.env :: X.outer) (hf : X.env.frame = some X.env.locals) (tk : Takes X Wo) (ok : X.Ok)
    (c : Cgt X pins σ H cls d a B I0 s) {hds : List ExceptHandler} {l : List Kl} (k : Kls X hds l) : wKl X.K Wo De l cls d σ H → wpAny (model X.prog X.w) X.A (handleBy (.ref a) X.env hds) (SP X pins De) X.xe s := by
  obtain ⟨oe, vs, h1, h2, h3, S⟩ := c.at_suite hf
  have ty : PySem.W.Looks (model X.prog X.w) s.heap (typeOf (.ref a)) cls := fun A Q E s k q => wpAny_typeOf_ref (k _ _ h1) (by rw [h2.1]; exact q)
  induction k with
  | nil => exact fun w => c.passes hs hf tk w
  | plain hc hsu r ih =>
    rintro ⟨b, hb, yes, no⟩
    refine wpAny_handleBy_cons (codeAny_handlers_test ?_) (fun q => by cases q)
    refine name_at hc S ((PySem.W.exm_one (M := model X.prog X.w) c.now.kIn ty hb).here ?_)
    cases b
    case false => exact ih (no rfl)
    case true =>
      refine codeAny_handlers_suite (HandSPX.lands_againZ c.fly fun h f u => ?_)
      obtain ⟨oe2, vs2, g1, g2, g3, S2⟩ := (c.on f u).at_suite hf
      exact wpAny_mono ((hsu a oe2 cls d (X.pn ++ pins) g2 ⟨_, g3⟩).run [] _ _ H _ S2 (yes rfl a c.out)) (fun f s6 z => Cgt.suite_end ok z) fun _ _ z => False.elim z
  | @named x n cv i ts b0 bs p q0 hds2 l2 hc hi hl hsu r ih =>
    rintro ⟨b, hb, yes, no⟩
    refine wpAny_handleBy_cons (codeAny_handlers_test ?_) (fun q => by cases q)
    refine name_at hc S ((PySem.W.exm_one (M := model X.prog X.w) c.now.kIn ty hb).here ?_)
    cases b
    case false => exact ih (no rfl)
    case true =>
      refine codeAny_handlers_suite_as (HandSPX.lands_againZ c.fly fun h f u => ?_)
      obtain ⟨oe2, vs2, g1, g2, g3, S2⟩ := (c.on f u).at_suite hf
      refine store_ok (X := X.suite a ((a, oe2) :: (X.pn ++ pins))) (v := .ref a) S2 hN hi (.inl hl) rfl (fun s5 S5 => ?_) (.inr hl)
      refine wpAny_mono ((hsu a oe2 cls d (X.pn ++ pins) g2 ⟨_, g3⟩).run [] s5 _ H _ S5 (yes rfl a c.out)) (fun f s6 z => ?_) fun _ _ z => False.elim z
      have bye : ∀ {τ : L2.St} {H6 : Hp} {Q : Shared → Prop}, Inv X pins τ H6 s6 → (∀ s7, Inv X pins (τ.set i none) H6 s7 → Q s7) → wpAny (model X.prog X.w) X.A (do bindName X.env n .none; unbindBehindTheSuite X.env n q0) (fun _ s7 => Q s7) X.xe s6 := fun J hq => gone_ok J hN hi hl hq
      have z2 := Cgt.suite_end ok z
      cases f
      case ret u => exact let ⟨v, τ, H6, J, rr, w⟩ := z2; bye J fun s7 J7 => ⟨_, _, _, J7, rr, w⟩
      all_goals exact let ⟨τ, H6, J, w⟩ := z2; bye J fun s7 J7 => ⟨_, _, J7, w⟩
/-- try: .. except C: .. except D as e: .. -/
theorem ps_try_kls (hN : X.N.Nodup) (hs : X.stack = X.env :: X.outer) (hf : X.env.frame = some X.env.locals) (tk : Takes X Wo)
    (hb : ∀ (W : WX) (pn : List (Addr × Obj)) (xe : Value → Shared → Prop), Takes (X.tr pn xe) W → PassesOwn (model X.prog X.w) X.A X.env xe → PSs (X.tr pn xe) body (tb W)) (hh : Kls X (hd :: hds) l) :
    PS X (.Try body (hd :: hds) [] [] pos) (fun De σ H => tb (wKl X.K Wo De l) De σ H) := by
  refine ⟨fun pins s σ H De I h => ?_⟩
  have ok := I.ok
  refine wpAny_Try_except (wpAny_mono ((hb (wKl X.K Wo De l) (X.pn ++ pins) (fun e s1 => wpAny (model X.prog X.w) X.A (noteFrame e X.env) (fun _ s2 => wpAny (model X.prog X.w) X.A (setFlight e none) (fun _ s3 => wpAny (model X.prog X.w) X.A (handleBy e X.env (hd :: hds)) (SP X pins De) X.xe s3) X.xe s2) X.xe s1)
    (fun u s1 xx => ?_) PassesOwn.looking).run [] s σ H De (I.toTry _) h) (fun f s1 z => ?_) fun _ _ z => z)
  · obtain ⟨a, B, I0, pins0, σ0, H0, cls, d, e, J0, low, up, sky, out, os, bare, w⟩ := xx
    subst e
    have J : Inv X pins σ0 H0 I0 := J0.ofTry ok
    show wpAny (model X.prog X.w) X.A (noteFrame (.ref a) X.env) _ _ _
    exact Sky.land Zc.steady (by rw [ok.frames, hs]) hf (by rw [← hs]; exact sky) fun h3 fl up3 => Cgt.handled hN hs hf tk ok (s := { s1 with heap := h3 }) ⟨J, low, up.trans up3, fl, out, os, bare⟩ hh w
  · have z2 : SP X pins De f s1 := flow_out (fun J => J.ofTry ok) z
    cases f
    case next => exact wpAny_execs_nil z2
    all_goals exact z2
end
end PD

/-! PDo: try, over data. -/
namespace PD
open PySem PySem.Spec PyProof.Rows L2
/-- an error of the class e is what «except c» takes -/
def exSub (e c : Str) : Bool := decide (e = c) || decide (c = "SweetError")
/-- a clause over data: a plain suite; «as e: x.append(e.field)» (e in slot i, x in slot j); «as e: x = e.field» -/
inductive Dk where
  | plain (c : Str) (ds : DS)
  | app (c fl : Str) (i j : Nat)
  | put (c fl : Str) (i j : Nat)
def dkCls : Dk → Str
  | .plain c _ => c
  | .app c _ _ _ => c
  | .put c _ _ _ => c
def dkRun : Dk → Exn → DS
  | .plain _ ds, _ => fun g M N => ds g M { N with ex := fun _ _ _ => False }
  | .app c fl i j, e => fun g M N => ∃ y k xs, i ≠ j ∧ i < g.length ∧ e = ⟨c, some (fl, y)⟩ ∧ g[j]? = some (some (.ptr k)) ∧ M[k]? = some (.lst xs) ∧ xs.length < sizeLine ∧ N.nx (g.set i none) (M.set k (.lst (xs ++ [y])))
  | .put c fl i j, e => fun g M N => ∃ y, i ≠ j ∧ i < g.length ∧ e = ⟨c, some (fl, y)⟩ ∧ N.nx ((g.set i none).set j (some y)) M
def hdlD : List Dk → Exn → DS
  | [], e => fun g M N => N.ex e g M
  | k :: r, e => fun g M N => if exSub e.cls (dkCls k) = true then dkRun k e g M N else hdlD r e g M N
def sTry (L : List Str) (b : DS) (ks : List Dk) : DS := fun g M N => b g M { N with ex := fun e g' M' => e.cls ∈ L ∧ hdlD ks e g' M' N }
section
variable {X : Cx} {C : Cn} {W : WX}
/-- «x.append(e.field)» in a clause's suite -/
def tApp (C : Cn) (c fl : Str) (i j : Nat) : Addr → Value → Option Addr → TS := fun a cls d De σ H => ∃ th F g M dd v y k xs, At C th F H σ g M ∧ σ[i]? = some (some (.ref a)) ∧ cls = .ref (C.cl c) ∧ d = some dd ∧ H dd = some (.xd [(fl, v)]) ∧ Rep C th F v y ∧ g[j]? = some (some (.ptr k)) ∧ M[k]? = some (.lst xs) ∧ xs.length < sizeLine ∧
  ∀ σ' th' F' H', At C th' F' H' σ' g (M.set k (.lst (xs ++ [y]))) → Le th F th' F' → De.nx σ' H'
def tPut (C : Cn) (c fl : Str) (i j : Nat) : Addr → Value → Option Addr → TS := fun a cls d De σ H => ∃ th F g M dd v y, At C th F H σ g M ∧ σ[i]? = some (some (.ref a)) ∧ cls = .ref (C.cl c) ∧ d = some dd ∧ H dd = some (.xd [(fl, v)]) ∧ Rep C th F v y ∧
  ∀ σ', At C th F H σ' (g.set j (some y)) M → De.nx σ' H
theorem app_up {c fl : Str} {i j : Nat} {a : Addr} {cls : Value} {d : Option Addr} {tb : TE} {K : PySem.W.Frag} (htb : ∀ σ H Q, (∃ dd v, σ[i]? = some (some (.ref a)) ∧ cls = .ref (C.cl c) ∧ d = some dd ∧ H dd = some (.xd [(fl, v)]) ∧ Q v H) → tb σ H Q) (De : Ends) (σ : L2.St) (H : Hp)
    (h : tApp C c fl i j a cls d De σ H) : tBM K "list" rAppend (tVar j) (tCons tb tNil) σ H fun _ H' => De.nx σ H' := by
  obtain ⟨th, F, g, M, dd, v, y, k, xs, hA, ei, ec, ed, eh, rv, eg, em, hl, q⟩ := h
  obtain ⟨u, eu, ru⟩ := hA.sl.2 j _ eg
  cases ru with
  | @ptr ad _ et =>
    obtain ⟨nF, vs, hv, rs⟩ := hA.hs.cell _ _ _ em et
    refine ⟨_, eu, .inl ⟨rfl, vs, SqL.of hv⟩, htb σ H _ ⟨dd, v, ei, ec, ed, eh, ad, vs, v, rfl, rfl, hv, by rw [RepL.len rs]; exact hl, ?_⟩⟩
    exact q σ th F _ ⟨hA.hs.put et nF ⟨nF, _, upd_same, rs.app (.one rv)⟩, hA.sl⟩ Le.rfl
theorem put_up {c fl : Str} {i j : Nat} {a : Addr} {cls : Value} {d : Option Addr} {tb : TE} (htb : ∀ σ H Q, (∃ dd v, σ[i]? = some (some (.ref a)) ∧ cls = .ref (C.cl c) ∧ d = some dd ∧ H dd = some (.xd [(fl, v)]) ∧ Q v H) → tb σ H Q) (De : Ends) (σ : L2.St) (H : Hp)
    (h : tPut C c fl i j a cls d De σ H) : tAsg tb (gName j) De σ H := by
  obtain ⟨th, F, g, M, dd, v, y, hA, ei, ec, ed, eh, rv, q⟩ := h
  exact htb σ H _ ⟨dd, v, ei, ec, ed, eh, q _ ⟨hA.hs, hA.sl.set j rv⟩⟩
theorem by_I {c : Str} {qn : Str} {fI : Addr} {i : Nat} {n : Str} {a : Addr} {oe : Obj} {cls : Value} {d : Option Addr} {pn : List (Addr × Obj)} {p pos : Pos} (T : PySem.ErrI.LowTxt X.K X.mg c qn (C.cl c) fI) (hz : Zc cls d oe) (hf : ∃ vs, oe.data = .fields vs) (he : PE (X.suite a ((a, oe) :: pn)) (.Name n p) (tVar i))
    (hb : attributeBase (.Name n p) "index" X.env (eval (.Name n p) X.env) = eval (.Name n p) X.env := by rfl) : PE (X.suite a ((a, oe) :: pn)) (.Attribute (.Name n p) "index" pos) (fun σ H Q => ∃ dd v, σ[i]? = some (some (.ref a)) ∧ cls = .ref (C.cl c) ∧ d = some dd ∧ H dd = some (.xd [(("index" : Str), v)]) ∧ Q v H) :=
  pe_imp (pe_byLow_I T hz hf he hb) fun σ H Q ⟨dd, v, ei, ec, ed, eh, q⟩ => ⟨_, ei, rfl, ec, dd, v, ed, eh, q⟩
theorem by_W {c : Str} {qn : Str} {fI : Addr} {i : Nat} {n : Str} {a : Addr} {oe : Obj} {cls : Value} {d : Option Addr} {pn : List (Addr × Obj)} {p pos : Pos} (T : PySem.ErrW.LowTxt X.K X.mg c qn (C.cl c) fI) (hz : Zc cls d oe) (hf : ∃ vs, oe.data = .fields vs) (he : PE (X.suite a ((a, oe) :: pn)) (.Name n p) (tVar i))
    (hb : attributeBase (.Name n p) "word" X.env (eval (.Name n p) X.env) = eval (.Name n p) X.env := by rfl) : PE (X.suite a ((a, oe) :: pn)) (.Attribute (.Name n p) "word" pos) (fun σ H Q => ∃ dd v, σ[i]? = some (some (.ref a)) ∧ cls = .ref (C.cl c) ∧ d = some dd ∧ H dd = some (.xd [(("word" : Str), v)]) ∧ Q v H) :=
  pe_imp (pe_byLow_W T hz hf he hb) fun σ H Q ⟨dd, v, ei, ec, ed, eh, q⟩ => ⟨_, ei, rfl, ec, dd, v, ed, eh, q⟩
/-- the clause as it is handled -/
def klOf (C : Cn) : Dk → Kl
  | .plain c ds => ⟨.ref (C.cl c), none, fun _ _ _ => upS C W0 ds⟩
  | .app c fl i j => ⟨.ref (C.cl c), some i, tApp C c fl i j⟩
  | .put c fl i j => ⟨.ref (C.cl c), some i, tPut C c fl i j⟩
theorem slot_set {σ : L2.St} {i : Nat} {x : Option V} (h : i < σ.length) : (σ.set i x)[i]? = some x := List.getElem?_set_self h
theorem set_ne' {g : En} {i j : Nat} (h : i ≠ j) (x : Option D) : (g.set i x)[j]? = g[j]? := List.getElem?_set_ne h
theorem set_set' {g : En} {i : Nat} (x y : Option D) : (g.set i x).set i y = g.set i y := List.set_set ..
theorem hdl_up {K : PySem.W.Frag} {L : List Str} {De : Ends} {th : List Addr} {F : Hp} {N : DN} (ln : LkN C W De th F N) :
    ∀ {ks : List Dk}, (∀ k ∈ ks, ∀ e ∈ L, PySem.W.exmOne K (.ref (C.cl e)) (.ref (C.cl (dkCls k))) = some (exSub e (dkCls k))) →
    ∀ (e : Exn) (g : En) (M : MS) (σ : L2.St) (th' : List Addr) (F' H' : Hp) (cls : Value) (dd : Option Addr), e.cls ∈ L → hdlD ks e g M N → At C th' F' H' σ g M → Le th F th' F' → ExcAt C th' F' H' e cls dd → wKl K W De (ks.map (klOf C)) cls dd σ H'
  | [], _, e, g, M, σ, th', F', H', cls, dd, _, h, hA, l, x => ln.ex e g M σ th' F' H' cls dd h hA l x
  | k :: ks, hk, e, g, M, σ, th', F', H', cls, dd, he, h, hA, l, x => by
    have ec : (klOf C k).c = .ref (C.cl (dkCls k)) := by cases k <;> rfl
    refine ⟨exSub e.cls (dkCls k), by rw [ec, x.1]; exact hk k List.mem_cons_self _ he, fun yes a ha => ?_, fun no => ?_⟩
    · have h2 : dkRun k e g M N := by
        have h3 : (if exSub e.cls (dkCls k) = true then dkRun k e g M N else hdlD ks e g M N) := h
        rw [if_pos yes] at h3
        exact h3
      have ln2 := ln.mono l
      cases k with
      | plain c ds => exact ⟨th', F', g, M, { N with ex := fun _ _ _ => False }, hA, ⟨ln2.nx, ln2.rt, ln2.bk, ln2.ct, fun _ _ _ _ _ _ _ _ _ z => z.elim⟩, h2⟩
      | app c fl i j =>
        obtain ⟨y, kk, xs, hij, hig, ee, eg, em, hl, q⟩ := h2
        subst ee
        obtain ⟨x1, ad, v, x2, x3, x4⟩ := x
        refine ⟨th', F', g.set i none, M, ad, v, y, kk, xs, ⟨hA.hs, hA.sl.forget i _⟩, slot_set (by rw [hA.sl.1]; exact hig), x1, x2, x3, x4, by rw [set_ne' hij]; exact eg, em, hl, fun σ' th2 F2 H2 a2 l2 => ?_⟩
        refine ln2.nx _ _ (σ'.set i none) th2 F2 H2 q ⟨a2.hs, ?_⟩ l2
        have s := a2.sl.forget i none
        rwa [set_set'] at s
      | put c fl i j =>
        obtain ⟨y, hij, hig, ee, q⟩ := h2
        subst ee
        obtain ⟨x1, ad, v, x2, x3, x4⟩ := x
        refine ⟨th', F', g.set i none, M, ad, v, y, ⟨hA.hs, hA.sl.forget i _⟩, slot_set (by rw [hA.sl.1]; exact hig), x1, x2, x3, x4, fun σ' a2 => ?_⟩
        refine ln2.nx _ _ (σ'.set i none) th' F' H' q ⟨a2.hs, ?_⟩ Le.rfl
        have s := a2.sl.forget i none
        have e2 : ((g.set i none).set j (some y)).set i none = (g.set i none).set j (some y) := by
          refine List.ext_getElem? fun m => ?_
          by_cases h : i = m
          · subst h
            rw [List.getElem?_set_ne (Ne.symm hij)]
            by_cases hl2 : i < g.length
            · rw [List.getElem?_set_self (by rw [List.length_set, List.length_set]; exact hl2), List.getElem?_set_self hl2]
            · rw [List.getElem?_eq_none (by rw [List.length_set, List.length_set, List.length_set]; omega), List.getElem?_eq_none (by rw [List.length_set]; omega)]
          · rw [List.getElem?_set_ne h]
        rwa [e2] at s
    · have h2 : hdlD ks e g M N := by
        have h3 : (if exSub e.cls (dkCls k) = true then dkRun k e g M N else hdlD ks e g M N) := h
        rw [if_neg (by rw [no]; decide)] at h3
        exact h3
      exact hdl_up ln (fun k2 hk2 => hk k2 (List.mem_cons_of_mem _ hk2)) e g M σ th' F' H' cls dd he h2 hA l x
theorem s_try {L : List Str} {db : DS} {ks : List Dk} {body : List Stmt} {hd : ExceptHandler} {hds : List ExceptHandler} {pos : Pos} (hN : X.N.Nodup) (tk : Takes X W)
    (hb : ∀ (W' : WX) (pn : List (Addr × Obj)) (xe : Value → Shared → Prop), Takes (X.tr pn xe) W' → PassesOwn (model X.prog X.w) X.A X.env xe → PSs (X.tr pn xe) body (upS C W' db)) (hh : Kls X (hd :: hds) (ks.map (klOf C)))
    (hk : ∀ k ∈ ks, ∀ e ∈ L, PySem.W.exmOne X.K (.ref (C.cl e)) (.ref (C.cl (dkCls k))) = some (exSub e (dkCls k))) (hs : X.stack = X.env :: X.outer := by rfl) (hf : X.env.frame = some X.env.locals := by rfl) : PS X (.Try body (hd :: hds) [] [] pos) (upS C W (sTry L db ks)) :=
  ps_imp (ps_try_kls (tb := fun W' => upS C W' db) hN hs hf tk hb hh) fun De σ H ⟨th, F, g, M, N, a, ln, h⟩ =>
    ⟨th, F, g, M, { N with ex := fun e g' M' => e.cls ∈ L ∧ hdlD ks e g' M' N }, a, ⟨ln.nx, ln.rt, ln.bk, ln.ct, fun e g' M' σ' th' F' H' cls dd q a' l x => hdl_up ln hk e g' M' σ' th' F' H' cls dd q.1 q.2 a' l x⟩, h⟩
theorem kl_plain {c : Str} {ds : DS} {b : Stmt} {bs : List Stmt} {p q : Pos} {hds : List ExceptHandler} {l : List Dk} (hm : X.mg c = some (.ref (C.cl c))) (h : ∀ (a : Addr) (pn : List (Addr × Obj)), PSs (X.suite a pn) (b :: bs) (upS C W0 ds)) (r : Kls X hds (l.map (klOf C)))
    (hg : Gl X c := by rfl) (hdb : (c == ("__debug__" : Str)) = false := by decide) : Kls X (.ExceptHandler (some (.Name c p)) none (b :: bs) q :: hds) ((Dk.plain c ds :: l).map (klOf C)) :=
  .plain ⟨hg, hdb, .inl hm⟩ (fun a oe cls d pn _ _ => h a ((a, oe) :: pn)) r
theorem kl_app {c fl n x : Str} {i j : Nat} {p q p1 p2 p3 p4 p5 p6 : Pos} {hds : List ExceptHandler} {l : List Dk} (hm : X.mg c = some (.ref (C.cl c)))
    (hby : ∀ (a : Addr) (oe : Obj) (cls : Value) (d : Option Addr) (pn : List (Addr × Obj)), Zc cls d oe → (∃ vs, oe.data = .fields vs) → PE (X.suite a ((a, oe) :: pn)) (.Attribute (.Name n p1) fl p2) (fun σ H Q => ∃ dd v, σ[i]? = some (some (.ref a)) ∧ cls = .ref (C.cl c) ∧ d = some dd ∧ H dd = some (.xd [(fl, v)]) ∧ Q v H))
    (hx : ∀ (a : Addr) (pn : List (Addr × Obj)), PE (X.suite a pn) (.Name x p3) (tVar j))
    (hst : ∀ (a : Addr) (pn : List (Addr × Obj)), PE (X.suite a pn) (.Name x p3) (tVar j) → ∀ te, PE (X.suite a pn) (.Attribute (.Name n p1) fl p2) te → PS (X.suite a pn) (.Expr (.Call (.Attribute (.Name x p3) "append" p4) [.Attribute (.Name n p1) fl p2] [] p5) p6) (tDrop (tBM X.K "list" rAppend (tVar j) (tCons te tNil))))
    (r : Kls X hds (l.map (klOf C))) (hi : X.N[i]? = some n := by rfl) (hl : X.env.kindOf n = some .local := by rfl) (hg : Gl X c := by rfl) (hdb : (c == ("__debug__" : Str)) = false := by decide) :
    Kls X (.ExceptHandler (some (.Name c p)) (some n) [.Expr (.Call (.Attribute (.Name x p3) "append" p4) [.Attribute (.Name n p1) fl p2] [] p5) p6] q :: hds) ((Dk.app c fl i j :: l).map (klOf C)) :=
  .named ⟨hg, hdb, .inl hm⟩ hi hl (fun a oe cls d pn hz hf => pss_imp (pss_one (hst a _ (hx a _) _ (hby a oe cls d pn hz hf))) fun De σ H h => app_up (fun σ H Q h => h) De σ H h) r
theorem kl_put {c fl n x : Str} {i j : Nat} {p q p1 p2 p3 p6 : Pos} {hds : List ExceptHandler} {l : List Dk} (hN : X.N.Nodup) (hm : X.mg c = some (.ref (C.cl c)))
    (hby : ∀ (a : Addr) (oe : Obj) (cls : Value) (d : Option Addr) (pn : List (Addr × Obj)), Zc cls d oe → (∃ vs, oe.data = .fields vs) → PE (X.suite a ((a, oe) :: pn)) (.Attribute (.Name n p1) fl p2) (fun σ H Q => ∃ dd v, σ[i]? = some (some (.ref a)) ∧ cls = .ref (C.cl c) ∧ d = some dd ∧ H dd = some (.xd [(fl, v)]) ∧ Q v H))
    (hst : ∀ (a : Addr) (pn : List (Addr × Obj)) (te : TE), PE (X.suite a pn) (.Attribute (.Name n p1) fl p2) te → PS (X.suite a pn) (.Assign [.Name x p3] (.Attribute (.Name n p1) fl p2) p6) (tAsg te (gName j)))
    (r : Kls X hds (l.map (klOf C))) (hi : X.N[i]? = some n := by rfl) (hl : X.env.kindOf n = some .local := by rfl) (hg : Gl X c := by rfl) (hdb : (c == ("__debug__" : Str)) = false := by decide) :
    Kls X (.ExceptHandler (some (.Name c p)) (some n) [.Assign [.Name x p3] (.Attribute (.Name n p1) fl p2) p6] q :: hds) ((Dk.put c fl i j :: l).map (klOf C)) :=
  .named ⟨hg, hdb, .inl hm⟩ hi hl (fun a oe cls d pn hz hf => pss_imp (pss_one (hst a _ _ (hby a oe cls d pn hz hf))) fun De σ H h => put_up (fun σ H Q h => h) De σ H h) r
end
/-- a statement behind which a state of one's own choice is told -/
def sMid (s : DS) : DS := fun g M N => ∃ R : En → MS → Prop, s g M { N with nx := R } ∧ ∀ g' M', R g' M' → N.nx g' M'
theorem s_mid {X : Cx} {C : Cn} {W : WX} {st : Stmt} {ds : DS} (h : PS X st (upS C W ds)) : PS X st (upS C W (sMid ds)) := ps_imp h fun De σ H ⟨th, F, g, M, N, a, k, R, h1, h2⟩ =>
  ⟨th, F, g, M, { N with nx := R }, a, ⟨fun g' M' σ' th' F' H' q a' l => k.nx g' M' σ' th' F' H' (h2 g' M' q) a' l, k.rt, k.bk, k.ct, k.ex⟩, h1⟩
theorem exm_sub {K : PySem.W.Frag} {S c : Addr} {b : Bool} (h1 : PySem.W.subIn K (.ref c) (.type "BaseException") = some true) (h2 : PySem.W.isClsIn K c = true) (h3 : PySem.W.typeIn K (.ref c) = some (.type "type")) (h4 : PySem.W.subIn K (.ref S) (.ref c) = some b) : PySem.W.exmOne K (.ref S) (.ref c) = some b := by
  have e1 : (PySem.W.subIn K (.ref c) (.type "BaseException") == some true) = true := by rw [h1]; rfl
  have h2' : (PySem.W.clsIn K c).isSome = true := h2
  have e2 : ((PySem.W.clsIn K c).isSome && PySem.W.typeIn K (.ref c) == some (.type "type")) = true := by rw [h2', h3]; rfl
  show (if (PySem.W.subIn K (.ref c) (.type "BaseException") == some true) = true then (if ((PySem.W.clsIn K c).isSome && PySem.W.typeIn K (.ref c) == some (.type "type")) = true then PySem.W.subIn K (.ref S) (.ref c) else none) else none) = some b
  rw [if_pos e1, if_pos e2]
  exact h4
end PD

/-! PDp: len(set(..)) of ints. -/
namespace PD
open PySem PySem.Spec PyProof.Rows L2
def ded (l : List Int) : List Int := l.foldl step_dedup []
theorem fst_ded (ns : List Int) : firstMet (fun i => ns.getD i 0) ns.length = ded ns := by
  unfold firstMet ded
  congr 1
  refine List.ext_getElem? fun i => ?_
  rw [List.getElem?_map]
  by_cases h : i < ns.length
  · rw [List.getElem?_range h, List.getElem?_eq_getElem h]
    show some (ns.getD i 0) = _
    rw [List.getD_eq_getElem?_getD, List.getElem?_eq_getElem h]; rfl
  · rw [List.getElem?_eq_none (by rw [List.length_range]; omega), List.getElem?_eq_none (by omega)]; rfl
section
variable {X : Cx} {C : Cn} {W : WX} {a : Expr} {da : DE}
def tSetLen (K : PySem.W.Frag) (ta : TE) : TE := fun σ H Q => ta σ H fun x H1 => ∃ (l : Addr) (ns : List Int), x = V.ref l ∧ SqL K H1 l (ns.map V.int) ∧ ns.length < 64 ∧ Q (.int (ded ns).length) H1
theorem pe_setLen {ta : TE} {p p2 q pos : Pos} (hc : X.calm = true) (hg : Gl X "len") (hm : X.mg "len" = none) (hg2 : Gl X "set") (hm2 : X.mg "set" = none) (ha : PE X a ta)
    (na : starEach [a] X.env = (false, eval a X.env) :: starEach [] X.env := by rfl) : PE X (.Call (.Name "len" p) [.Call (.Name "set" p2) [a] [] q] [] pos) (tSetLen X.K ta) := ⟨fun pins s σ H Q I h => by
  refine Call_ (ld_blt I hg hm PySem.boot_len (PyProof.Rows.callWith_builtin1 (PyProof.Rows.args_cons ?_ rfl) rfl rfl))
  refine Call_ (ld_blt I hg2 hm2 PyProof.Rows.boot_set (PyProof.Rows.callWith_type1 (PyProof.Rows.args_cons (thn (ha.run pins s σ H _ I h) fun v s1 ⟨x, H1, I1, r1, l, ns, e, hq, h1, q1⟩ => PyProof.Rows.args_nil ?_) na) na rfl))
  subst e
  cases r1
  obtain ⟨its, r, pl, hz⟩ := I1.list hq
  have hl : its.toArray.size = ns.length := by rw [List.size_toArray, ← r.length, List.length_map]
  refine call_set_list (I1.ok.hd hc) pl.isList (ns := ns) (by simpa using r.ints) (by unfold scanBound; omega) fun h' tk hS hk => PyProof.Rows.args_nil ?_
  rw [hl, fst_ded] at hS
  obtain ⟨o, _, _, _, ho, _, hd, _, _, _, hf, hn⟩ := hS
  have hle : (ded ns).length ≤ ns.length := by rw [← fst_ded]; exact firstMet_length_le _ _
  have I2 : Inv X pins σ H1 { s1 with heap := h', toks := tk } := I1.kept fun b o e => hk b o (Heap.lt_size e) e
  exact call_len_set ho (by assumption) hd hf (by rw [hn]; omega) ⟨.int (ded ns).length, H1, I2.tok _, ⟨_, by rw [hn]⟩, q1⟩⟩
def dSetLen (d : DE) : DE := fun g M X k => d g M X fun x M1 => ∃ l, lstOf x M1 = some (iL l) ∧ l.length < 64 ∧ k (.int ((ded l).length : Int)) M1
theorem e_setLen {p p2 q pos : Pos} (hc : X.calm = true) (hm : X.mg "len" = none) (hm2 : X.mg "set" = none) (ha : PE X a (upE C W da)) (hK : X.K = C.K := by rfl) (hg : Gl X "len" := by rfl) (hg2 : Gl X "set" := by rfl)
    (na : starEach [a] X.env = (false, eval a X.env) :: starEach [] X.env := by rfl) : PE X (.Call (.Name "len" p) [.Call (.Name "set" p2) [a] [] q] [] pos) (upE C W (dSetLen da)) := pe_imp (pe_setLen hc hg hm hg2 hm2 ha na) fun σ H Q h => by
  obtain ⟨th, F, g, M, X', P, p, h⟩ := h
  refine p.bind h fun x v t1 F1 H1 M1 h1 rx l1 p1 => ?_
  obtain ⟨l, e, hl, q⟩ := h1
  obtain ⟨ad, vs, rfl, h2, r⟩ := lst_at p1.at_.hs rx e
  have ei := r.ofI
  subst ei
  exact ⟨ad, l, rfl, hK ▸ SqL.of h2, hl, p1.fin q (.int _)⟩
end
theorem ded_one {l : List Int} {c : Int} (hne : l ≠ []) (h : ∀ x ∈ l, x = c) : ded l = [c] := by
  have key : ∀ l : List Int, (∀ x ∈ l, x = c) → l.foldl step_dedup [c] = [c] := fun l => by
    induction l with
    | nil => intro _; rfl
    | cons x l ih =>
      intro h
      have e := h x List.mem_cons_self
      subst e
      rw [List.foldl_cons]
      have : step_dedup [x] x = [x] := by simp [step_dedup]
      rw [this]
      exact ih fun y hy => h y (List.mem_cons_of_mem _ hy)
  cases l with
  | nil => exact absurd rfl hne
  | cons x l =>
    have e := h x List.mem_cons_self
    subst e
    unfold ded
    rw [List.foldl_cons]
    have : step_dedup [] x = [x] := by simp [step_dedup]
    rw [this]
    exact key l fun y hy => h y (List.mem_cons_of_mem _ hy)
theorem ded_mem (l : List Int) : ∀ acc : List Int, ∀ x, x ∈ l.foldl step_dedup acc ↔ x ∈ acc ∨ x ∈ l := by
  induction l with
  | nil => intro acc x; simp
  | cons y l ih =>
    intro acc x
    rw [List.foldl_cons, ih]
    unfold step_dedup
    by_cases h : acc.any (· == y) = true
    · rw [if_pos h]
      simp only [List.any_eq_true, beq_iff_eq] at h
      obtain ⟨z, hz, rfl⟩ := h
      simp only [List.mem_cons]
      constructor
      · rintro (h | h)
        · exact .inl h
        · exact .inr (.inr h)
      · rintro (h | rfl | h)
        · exact .inl h
        · exact .inl hz
        · exact .inr h
    · rw [if_neg h]
      simp only [List.mem_append, List.mem_cons, List.not_mem_nil, or_false]
      constructor
      · rintro ((h | h) | h)
        · exact .inl h
        · exact .inr (.inl h)
        · exact .inr (.inr h)
      · rintro (h | h | h)
        · exact .inl (.inl h)
        · exact .inl (.inr h)
        · exact .inr h
theorem ded_two {l : List Int} {x y : Int} (hx : x ∈ l) (hy : y ∈ l) (h : x ≠ y) : 1 < (ded l).length := by
  have h1 := (ded_mem l [] x).mpr (.inr hx)
  have h2 := (ded_mem l [] y).mpr (.inr hy)
  change x ∈ ded l at h1
  change y ∈ ded l at h2
  match hd : ded l, h1, h2 with
  | [], h1, _ => cases h1
  | [z], h1, h2 =>
    simp at h1 h2
    exact absurd (h1.trans h2.symm) h
  | _ :: _ :: _, _, _ => simp
end PD

/-! PDq: enumerate over a list or a tuple. -/
namespace PD
open PySem PySem.Spec PyProof.Rows L2
def tEnumS (K : PySem.W.Frag) (ta : TA) : TI := fun σ H R => ta σ H fun vs H1 => ∃ a xs, vs = [.ref a] ∧ ((SqL K H1 a xs ∧ R (Ite K a) H1) ∨ (SqT K H1 a xs ∧ R (Iet K a) H1))
theorem pi_enumS {X : Cx} {e : Expr} {ta : TA} {p pos tpos : Pos} {elts : List Expr} {kk : Nat} (hg : Gl X "enumerate") (hm : X.mg "enumerate" = none) (ha : PA X [e] ta) (hs : starEach [e] X.env = [(false, eval e X.env)] := by rfl) :
    PI X (.Tuple elts kk tpos) (.Call (.Name "enumerate" p) [e] [] pos) (tEnumS X.K ta) := ⟨fun pins s σ H R I h => by
  refine Call_ (ld_blt I hg hm boot_enumerate (PyProof.Rows.callWith_type1 (thn (ha.run pos pins s σ H _ I h) fun us s1 ⟨vs, H1, I1, r1, q1⟩ => ?_) hs rfl))
  obtain ⟨a, xs, ex, q⟩ := q1
  subst ex
  cases r1 with
  | cons r rr =>
    cases rr
    cases r
    have two : ∀ {b : Addr} {P : Addr → Prop}, b ∈ [s1.heap.objs.size + 1, s1.heap.objs.size] → (∀ c, s1.heap.objs.size ≤ c → P c) → P b := fun {b P} hb h => by
      have e' : b = s1.heap.objs.size + 1 ∨ b = s1.heap.objs.size := by simpa using hb
      rcases e' with z | z
      · rw [z]; exact h _ (Nat.le_add_right _ _)
      · rw [z]; exact h _ (Nat.le_refl _)
    rcases q with ⟨hq, q⟩ | ⟨hq, q⟩
    · obtain ⟨its, rv, p', hz⟩ := I1.list hq
      refine call_enumerate_list p'.isList fun h' he hit hsz hk => wpAny_pyIter_enum he ?_
      exact ⟨s1.heap.objs.size + 1, [s1.heap.objs.size + 1, s1.heap.objs.size], _, _, H1, rfl, I1.kept (t' := s1.toks) hk, turn_enum a (s1.heap.objs.size + 1) s1.heap.objs.size, ⟨⟨.none, he⟩, hit, Nat.succ_ne_self _⟩, fun b hb => two hb fun c hc => I1.fpOk hc (I1.hok.fresh hc), q⟩
    · obtain ⟨its, rv, p', hz⟩ := I1.tuple hq
      have hlt : a < s1.heap.objs.size := p'.lt
      refine PySem.pd_callEnum p' fun h' he hit hsz hk => wpAny_pyIter_enum he ?_
      exact ⟨s1.heap.objs.size + 1, [s1.heap.objs.size + 1, s1.heap.objs.size], _, _, H1, rfl, I1.kept (t' := s1.toks) hk, turn_enumT a (s1.heap.objs.size + 1) s1.heap.objs.size, ⟨⟨.none, he⟩, hit, Nat.succ_ne_self _, Nat.ne_of_lt hlt, Nat.ne_of_lt (Nat.lt_succ_of_lt hlt)⟩, fun b hb => two hb fun c hc => I1.fpOk hc (I1.hok.fresh hc), q⟩⟩
def iEnS (d : DA) : DIt := fun g M X k => d g M X fun xs M1 => ∃ x ys, xs = [x] ∧ (x = .lst ys ∨ x = .tup ys) ∧ k (enumD ys) M1
section
variable {X : Cx} {C : Cn} {W : WX} {a : Expr} {ea : DA} {pos p tpos : Pos} {elts : List Expr} {kk : Nat}
theorem i_enS (hm : X.mg "enumerate" = none) (ha : PA X [a] (upA C W ea)) (hg : Gl X "enumerate" := by rfl) (hs : starEach [a] X.env = [(false, eval a X.env)] := by rfl) (hK : X.K = C.K := by rfl) : PI X (.Tuple elts kk tpos) (.Call (.Name "enumerate" p) [a] [] pos) (upI C W (iEnS ea)) := ⟨fun pins s σ H R I h => (pi_enumS hg hm ha hs).run pins s σ H R I (by
  obtain ⟨th, F, g, M, X', P, at_, h, ok, ex⟩ := h
  refine ⟨th, F, g, M, X', _, ⟨at_, fun xs M1 v t1 F1 H1 q hs l r => ?_, ex⟩, h⟩
  obtain ⟨x, ys, e, ex2, q⟩ := q
  subst e
  obtain ⟨v0, e0, r0⟩ := RepL.one' r
  subst e0
  rcases ex2 with e | e
  · subst e
    cases r0 with
    | @lst ad vs _ hf rs => exact ⟨ad, vs, rfl, .inl ⟨SqL.of (hs.ex _ _ hf), ok _ M1 t1 F1 H1 _ q hs l (giv_pair walk_enum (fun H e => SqL.of (e _ _ hf)) rs)⟩⟩
  · subst e
    cases r0 with
    | @tup ad vs _ hf rs => exact ⟨ad, vs, rfl, .inr ⟨SqT.of (hs.ex _ _ hf), ok _ M1 t1 F1 H1 _ q hs l (giv_pair walk_enumT (fun H e => SqT.of (e _ _ hf)) rs)⟩⟩)⟩
end
end PD

/-! PDr: an own object's methods and properties, and len of it. -/
namespace PD
open PySem PySem.Spec PyProof.Rows L2
section
variable {X : Cx} {CX : CXT} {k : Nat} {cl f : Addr} {fd : FuncData} {ps : List Str} {sp : Sp} {E : L2.St → XK} {m : Str} {apos pos : Pos} {o e : Expr} {es : List Expr} {ta : TE} {t : TA}
def tMethS (cl : Addr) (m : Str) (sp : Sp) (E : L2.St → XK) (ta : TE) (t : TA) : TE := fun σ H Q => ta σ H fun x H1 => ∃ a dx fs, x = .ref a ∧ H1 a = some (.ins cl dx fs) ∧ fs.lookup m = none ∧ t σ H1 fun vs H2 => sp (x :: vs) H2 Q (E σ)
theorem pe_methS {pl : Sem Bool} (he : PE X o ta) (c : Cls X.K cl) (hm : Meth X.K cl m f) (F : FnOk X.prog X.w X.K X.mg X.base CX k f fd ps sp) (hr : Room k X.A) (hb : Binds X.K fd ps []) (hx : ∀ σ, PassesAt CX X σ (E σ)) (ha : PA X (e :: es) t)
    (hst : starEach (e :: es) X.env = (false, eval e X.env) :: starEach es X.env := by rfl) (hpl : (backTo pos (starEach es X.env)).any (·.1) = false := by rfl)
    (ht : eval (.Call (.Attribute o m apos) (e :: es) [] pos) X.env = (do
      let ov ← eval o X.env
      standAt apos.atName
      let (f, first) ← holding [ov] (getMethod ov m pl)
      callWith pos f first (backTo pos (starEach (e :: es) X.env)) (backToKw pos (keywordEach [] X.env))) := by rfl) :
    PE X (.Call (.Attribute o m apos) (e :: es) [] pos) (tMethS cl m sp E ta t) := by
  refine ⟨fun pins s σ H Q I h => ?_⟩
  refine PySem.W.methodCall_KW (pl := pl) (thn (he.run pins s σ H _ I h) fun u s1 ⟨x, H1, I1, rx, a, dx, fs, ex, ea, l, q⟩ => ?_) ht
  subst ex
  obtain rfl : u = Value.ref a := rx
  refine getmeth_ok I1 ea c hm l ?_
  refine PySem.W.callWith_K (first := [.ref a]) (h₀ := X.base) I.ok.mod.kin hm.kp (thn (ha.run pos pins s1 σ H1 _ I1 q) fun us s2 ⟨vs, H2, I2, r, q2⟩ => ⟨I2.kIn, ?_⟩) hst hpl
  exact run_fnS (us := .ref a :: us) (vs := .ref a :: vs) F hr hb (hx σ) I2 (.cons rfl r) q2
theorem pe_methS0 {pl : Sem Bool} (he : PE X o ta) (c : Cls X.K cl) (hm : Meth X.K cl m f) (F : FnOk X.prog X.w X.K X.mg X.base CX k f fd ps sp) (hr : Room k X.A) (hb : Binds X.K fd ps []) (hx : ∀ σ, PassesAt CX X σ (E σ))
    (ht : eval (.Call (.Attribute o m apos) [] [] pos) X.env = (do
      let ov ← eval o X.env
      standAt apos.atName
      let (f, first) ← holding [ov] (getMethod ov m pl)
      callWith pos f first (backTo pos (starEach [] X.env)) (backToKw pos (keywordEach [] X.env))) := by rfl) :
    PE X (.Call (.Attribute o m apos) [] [] pos) (tMethS cl m sp E ta tNil) := by
  refine ⟨fun pins s σ H Q I h => ?_⟩
  refine PySem.W.methodCall_KW (pl := pl) (thn (he.run pins s σ H _ I h) fun u s1 ⟨x, H1, I1, rx, a, dx, fs, ex, ea, l, q⟩ => ?_) ht
  subst ex
  obtain rfl : u = Value.ref a := rx
  refine getmeth_ok I1 ea c hm l ?_
  exact PySem.W.callWith_K0 (first := [.ref a]) I1.kIn hm.kp (run_fnS (us := [.ref a]) (vs := [.ref a]) F hr hb (hx σ) I1 (.cons rfl .nil) q)
end
/-- o.m(..) -/
def dMeth (c : Addr) (m : Str) (s : DSp) (d : DE) (a : DA) : DE := fun g M X k => d g M X fun x M1 => ∃ j fs, x = .ptr j ∧ M1[j]? = some (.ins c fs) ∧ fs.lookup m = none ∧ a g M1 X fun xs M2 => s (x :: xs) M2 X k
/-- o.p, a property -/
def dProp (c : Addr) (s : DSp) (d : DE) : DE := fun g M X k => d g M X fun x M1 => ∃ j fs, x = .ptr j ∧ M1[j]? = some (.ins c fs) ∧ s [x] M1 X0 k
section
variable {X : Cx} {C : Cn} {W : WX} {o e : Expr} {pos apos : Pos} {es : List Expr} {d : DE} {ea : DA} {m : Str} {k : Nat} {cl f p g : Addr} {fd : FuncData} {ps : List Str} {s : DSp}
theorem de_meth {pl : Sem Bool} (he : PE X o (upE C W d)) (c : Cls X.K cl) (hm : Meth X.K cl m f) (F : FnOk X.prog X.w X.K X.mg X.base (L2.CX X.prog X.w) k f fd ps (upSp C s)) (hr : Room k X.A) (hb : Binds X.K fd ps []) (tk : Takes X W) (ha : PA X (e :: es) (upA C W ea))
    (hst : starEach (e :: es) X.env = (false, eval e X.env) :: starEach es X.env := by rfl) (hpl : (backTo pos (starEach es X.env)).any (·.1) = false := by rfl)
    (ht : eval (.Call (.Attribute o m apos) (e :: es) [] pos) X.env = (do
      let ov ← eval o X.env
      standAt apos.atName
      let (f, first) ← holding [ov] (getMethod ov m pl)
      callWith pos f first (backTo pos (starEach (e :: es) X.env)) (backToKw pos (keywordEach [] X.env))) := by rfl) :
    PE X (.Call (.Attribute o m apos) (e :: es) [] pos) (upE C W (dMeth cl m s d ea)) :=
  pe_imp (pe_methS he c hm F hr hb (fun σ => passAt tk σ) ha hst hpl ht) fun σ H Q h => by
    obtain ⟨th, F, g, M, X', P, p, h⟩ := h
    refine p.bind h fun x v t1 F1 H1 M1 h1 rx l1 p1 => ?_
    obtain ⟨j, fs, rfl, ej, el, h1⟩ := h1
    cases rx with
    | @ptr a _ et =>
      obtain ⟨nF, dx, gs, hv, rf⟩ := p1.at_.hs.cell _ _ _ ej et
      refine ⟨a, dx, gs, rfl, hv, RepF.none rf el, ?_⟩
      refine p1.bind h1 fun xs vs t2 F2 H2 M2 h2 rx l2 p2 => ?_
      exact ⟨t2, F2, M2, .ptr j :: xs, X', P, p2.at_.hs, .cons (.ptr (l2.pre _ _ et)) rx, h2, p2.ok, p2.ex⟩
theorem de_meth0 {pl : Sem Bool} (he : PE X o (upE C W d)) (c : Cls X.K cl) (hm : Meth X.K cl m f) (F : FnOk X.prog X.w X.K X.mg X.base (L2.CX X.prog X.w) k f fd ps (upSp C s)) (hr : Room k X.A) (hb : Binds X.K fd ps []) (tk : Takes X W)
    (ht : eval (.Call (.Attribute o m apos) [] [] pos) X.env = (do
      let ov ← eval o X.env
      standAt apos.atName
      let (f, first) ← holding [ov] (getMethod ov m pl)
      callWith pos f first (backTo pos (starEach [] X.env)) (backToKw pos (keywordEach [] X.env))) := by rfl) :
    PE X (.Call (.Attribute o m apos) [] [] pos) (upE C W (dMeth cl m s d dNil)) :=
  pe_imp (pe_methS0 he c hm F hr hb (fun σ => passAt tk σ) ht) fun σ H Q h => by
    obtain ⟨th, F, g, M, X', P, p, h⟩ := h
    refine p.bind h fun x v t1 F1 H1 M1 h1 rx l1 p1 => ?_
    obtain ⟨j, fs, rfl, ej, el, h1⟩ := h1
    cases rx with
    | @ptr a _ et =>
      obtain ⟨nF, dx, gs, hv, rf⟩ := p1.at_.hs.cell _ _ _ ej et
      refine ⟨a, dx, gs, rfl, hv, RepF.none rf el, ?_⟩
      exact ⟨t1, F1, M1, [.ptr j], X', P, p1.at_.hs, .cons (.ptr et) .nil, h1, p1.ok, p1.ex⟩
theorem de_propC (he : PE X o (upE C W d)) (c : Cls X.K cl) (hp : PropOf X.K cl m p g) (F : FnOk X.prog X.w X.K X.mg X.base (L2.CX X.prog X.w) k g fd ps (upSp C s)) (hr : Room (k + 1) X.A) (hb : Binds X.K fd ps []) (hx : Passes (L2.CX X.prog X.w) X.nox E0)
    (hab : attributeBase o m X.env (eval o X.env) = eval o X.env := by rfl) : PE X (.Attribute o m pos) (upE C W (dProp cl s d)) :=
  pe_imp (pe_prop he c hp F hr hb .nil hx hab) fun σ H Q h => by
    obtain ⟨th, F, g, M, X', P, p, h⟩ := h
    refine p.bind h fun x v t1 F1 H1 M1 h1 rx l1 p1 => ?_
    obtain ⟨j, fs, rfl, ej, h1⟩ := h1
    cases rx with
    | @ptr a _ et =>
      obtain ⟨nF, dx, gs, hv, rf⟩ := p1.at_.hs.cell _ _ _ ej et
      refine ⟨a, dx, gs, rfl, hv, ?_⟩
      exact ⟨t1, F1, M1, [.ptr j], X0, P, p1.at_.hs, .cons (.ptr et) .nil, h1, p1.ok, fun _ _ _ _ _ _ _ z => z.elim⟩
end
end PD

/-! PDs: len of an own object, == of games by the own def, isinstance(x, Game). -/
namespace PD
open PySem PySem.Spec PyProof.Rows L2
/-- a method, a property, the maker of an own class -/
structure Mt (K : PySem.W.Frag) (c : Addr) (m : Str) (ps : List Str) (f : Addr) (fd : FuncData) : Prop where
  m : Meth K c m f
  b : Binds K fd ps []
structure Pt (K : PySem.W.Frag) (c : Addr) (m : Str) (p f : Addr) (fd : FuncData) : Prop where
  p : PropOf K c m p f
  b : Binds K fd ["self"] []
structure Mi (K : PySem.W.Frag) (mg : Str → Option Value) (nm : Str) (c : Addr) (ps : List Str) (f : Addr) (fd : FuncData) : Prop where
  g : mg nm = some (.ref c)
  m : Mk K c f
  b : Binds K fd ps []
structure Pm (K : PySem.W.Frag) (c : Addr) : Prop where
  cl : Cls K c
  n_rules : NoAttr K c "rules"
  n_now : NoAttr K c "now"
  n_past : NoAttr K c "past"
  n_future : NoAttr K c "future"
/-! ### len(o) -/
section
variable {X : Cx} {C : Cn} {W : WX} {cl f : Addr} {fd : FuncData} {ps : List Str} {s : DSp} {sp : Sp} {k : Nat} {a : Expr} {d : DE} {pos p : Pos} {da : DE}
def rLenO (cl : Addr) (sp : Sp) : List V → Hp → VK → Prop := fun xs H Q => ∃ a dx fs, xs = [.ref a] ∧ H a = some (.ins cl dx fs) ∧ sp [.ref a] H (fun v H' => ∃ n, v = .int n ∧ 0 ≤ n ∧ n < 2 ^ 63 ∧ Q v H') E0
theorem call_lenO (hm : Meth X.K cl "__len__" f) (F : FnOk X.prog X.w X.K X.mg X.base (L2.CX X.prog X.w) k f fd ps sp) (hr : Room (k + 1) X.A) (hb : Binds X.K fd ps []) : CallR X (.builtin "len") (rLenO cl sp) := by
  intro pins s σ H xs us Q I r h
  obtain ⟨a, dx, fs, rfl, ha, h⟩ := h
  obtain ⟨u, rfl, ru⟩ := vals1 r
  obtain rfl : u = Value.ref a := ru
  obtain ⟨mA, J, _⟩ := ins_get I.hok ha
  obtain ⟨od, J, _⟩ := J.look
  obtain ⟨m, hF⟩ := I.fr
  refine PySem.W.len_K hF I.ok.mod.kin J hm.at_ hm.fn ?_
  have hl := F.len _ _ _ _ h
  have r2 : Vals [V.ref a] [Value.ref a] := .cons rfl .nil
  refine wpAny_call (codeAny_mono (F.run X.A.in1 X.stack s H ⟨[.ref a], []⟩ [.ref a] [.ref a] _ E0 hr.in1 I.env0.in1 (by
    have := hb s [.ref a] I.kIn (by simpa using hl)
    simpa using this) r2 h) fun r s' hq => ?_)
  cases r with
  | error e => exact passL pins σ H s e s' I hq
  | ok fl =>
    cases fl with
    | ret u =>
      obtain ⟨v, H', I', rv, n, e, h0, h1, q⟩ := I.after hq
      subst e
      obtain ⟨t, rfl⟩ := rv
      exact ⟨⟨h0, h1⟩, .int n, H', I'.tok _, ⟨_, rfl⟩, q⟩
    | next => exact False.elim hq
    | brk => exact False.elim hq
    | cont => exact False.elim hq
def dLenO (c : Addr) (s : DSp) (d : DA) : DE := fun g M X k => d g M X fun xs M1 => ∃ j fs, xs = [.ptr j] ∧ M1[j]? = some (.ins c fs) ∧ s [.ptr j] M1 X0 fun y M2 => ∃ n, y = .int n ∧ 0 ≤ n ∧ n < 2 ^ 63 ∧ k y M2
theorem b_lenO {ea : DA} (hm : Meth X.K cl "__len__" f) (F : FnOk X.prog X.w X.K X.mg X.base (L2.CX X.prog X.w) k f fd ps (upSp C s)) (hr : Room (k + 1) X.A) (hb : Binds X.K fd ps []) (hz : X.mg "len" = none) (ha : PA X [a] (upA C W ea)) (hg : Gl X "len" := by rfl)
    (he : starEach [a] X.env = (false, eval a X.env) :: starEach [] X.env := by rfl) : PE X (.Call (.Name "len" p) [a] [] pos) (upE C W (dLenO cl s ea)) :=
  pe_imp (pe_callB (call_lenO hm F hr hb) hg hz (by decide +kernel) ha (by decide) (by decide) he (by rfl)) fun σ H Q h => by
    obtain ⟨th, F, g, M, X', P, p, h⟩ := h
    refine p.bind h fun xs vs t1 F1 H1 M1 h1 rx l1 p1 => ?_
    obtain ⟨j, fs, rfl, ej, h1⟩ := h1
    obtain ⟨v, rfl, r⟩ := rx.one'
    cases r with
    | @ptr ad _ et =>
      obtain ⟨nF, dx, gs, hv, rf⟩ := p1.at_.hs.cell _ _ _ ej et
      refine ⟨ad, dx, gs, rfl, hv, ?_⟩
      refine ⟨t1, F1, M1, [.ptr j], X0, _, p1.at_.hs, .cons (.ptr et) .nil, h1, fun y M2 v t2 F2 H2 q hs l r => ?_, fun _ _ _ _ _ _ _ z => z.elim⟩
      obtain ⟨n, e, h0, h2, q⟩ := q
      subst e
      cases r
      exact ⟨n, rfl, h0, h2, p1.ok _ _ _ t2 F2 H2 q hs l (.int n)⟩
end
/-! ### == of games -/
def gmEq (n s : Int) (ws : List Int) (y : D) : Bool := match y with
  | .gm n2 s2 ws2 => decide (n = n2) && decide (s = s2) && decide (ws = ws2)
  | _ => false
def GmArg (M : MS) (y : D) : Prop := tyN y M ∈ tyL ∨ ∃ n s ws, y = .gm n s ws
abbrev sp_Game_eq : DSp := fun xs M X k => ∃ n s ws y, xs = [.gm n s ws, y] ∧ GmArg M y ∧ k (.bl (gmEq n s ws y)) M
abbrev rdGEq : D → D → MS → (D → Prop) → Prop := fun x y M k => ∃ n s ws, x = .gm n s ws ∧ GmArg M y ∧ k (.bl (gmEq n s ws y))
structure Gq (K : PySem.W.Frag) (c : Addr) (ps : List Str) (f : Addr) (fd : FuncData) : Prop where
  e : PySem.W.findIn K (.ref c) "__eq__" = some (some (.ref f))
  i : PySem.W.isFn K (.ref f) = true
  b : Binds K fd ps []
def allTy (l : List Value) : Bool := l.all fun v => match v with | .type _ => true | _ => false
theorem mro_tab : ∀ t ∈ tyL, ((PySem.fastBuiltinMro t).map allTy) = some true := by decide +kernel
theorem sub_ty {K : PySem.W.Frag} {C : Addr} {t : String} (h : t ∈ tyL) : PySem.W.subIn K (.type t) (.ref C) = some false := by
  have e := mro_tab t h
  show (PySem.fastBuiltinMro t).map (·.contains (.ref C)) = some false
  cases hm : PySem.fastBuiltinMro t with
  | none => rw [hm] at e; cases e
  | some l =>
    rw [hm] at e
    show some (l.contains (.ref C)) = some false
    have e2 : allTy l = true := by simpa using e
    have : l.contains (.ref C) = false := by
      rw [List.contains_eq_any_beq, List.any_eq_false]
      intro v hv
      have := List.all_eq_true.mp e2 v hv
      cases v <;> first | (cases this; done) | (simp; done) | (intro z; cases z)
    rw [this]
/-- the value w is of a built-in type, or an instance of C -/
def TyG (K : PySem.W.Frag) (C : Addr) (H : Hp) (w : V) : Prop := (∃ t ∈ tyL, TyX K H w (.type t)) ∨ ∃ a dx fs, w = .ref a ∧ H a = some (.ins C dx fs)
def rGq (K : PySem.W.Frag) (C : Addr) (sp : Sp) : R2 := fun x y H Q => ∃ a dx fs, x = .ref a ∧ H a = some (.ins C dx fs) ∧ TyG K C H y ∧ sp [x, y] H (fun v H' => (∃ b, v = .bl b) ∧ Q v H') E0
section
variable {X : Cx} {C : Cn} {W : WX} {c f : Addr} {fd : FuncData} {ps : List Str} {sp : Sp} {k : Nat} {a b : Expr} {da db : DE} {pos : Pos}
theorem op_gq (G : Gq X.K c ps f fd) (F : FnOk X.prog X.w X.K X.mg X.base (L2.CX X.prog X.w) k f fd ps sp) (hr : Room k X.A) : OpR X (compareOp .Eq) (rGq X.K c sp) := by
  intro pins s σ H x y v u Q I rx ry hq
  obtain ⟨a, dx, fs, rfl, ha, ty, h⟩ := hq
  obtain rfl : v = Value.ref a := rx
  obtain ⟨mA, J, _⟩ := ins_get I.hok ha
  obtain ⟨od, J, _⟩ := J.look
  obtain ⟨m, hF⟩ := I.fr
  have key : ∃ tb, PySem.W.Looks (model X.prog X.w) s.heap (typeOf u) tb ∧ PySem.W.notFirst X.K c tb = true := by
    rcases ty with ⟨t, ht, ty⟩ | ⟨b, dy, gs, rfl, hb⟩
    · obtain ⟨P, Z, p, _⟩ := kit_of I ry ty
      exact ⟨_, Z.ty _ _ I.kIn p, by unfold PySem.W.notFirst; rw [sub_ty ht]; simp⟩
    · obtain rfl : u = Value.ref b := ry
      obtain ⟨mB, J', _⟩ := ins_get I.hok hb
      obtain ⟨od', J', _⟩ := J'.look
      exact ⟨_, J'.type, by unfold PySem.W.notFirst; simp⟩
  obtain ⟨tb, hb, hn⟩ := key
  refine PySem.W.cmp_K (op := .Eq) (tb := tb) hr.units0 hF I.ok.mod.kin J hb hn G.e G.i ?_
  have hl := F.len _ _ _ _ h
  have r2 : Vals [V.ref a, y] [Value.ref a, u] := .cons rfl (.cons ry .nil)
  refine wpAny_call (codeAny_mono (F.run X.A X.stack s H ⟨[.ref a, u], []⟩ [.ref a, u] [.ref a, y] _ E0 hr I.env0 (by
    have := G.b s [.ref a, u] I.kIn (by simpa using hl)
    simpa using this) r2 h) fun r s' hq => ?_)
  cases r with
  | error e => exact passL pins σ H s e s' I hq
  | ok fl =>
    cases fl with
    | ret w =>
      obtain ⟨z, H', I', rz, ⟨b, e⟩, q⟩ := I.after hq
      subst e
      cases (show w = Value.bool b from rz)
      exact ⟨.bl b, H', I', rfl, q⟩
    | next => exact False.elim hq
    | brk => exact False.elim hq
    | cont => exact False.elim hq
theorem tyg_at {th : List Addr} {F H : Hp} {M : MS} {v : V} {y : D} (h : Hs C th F H M) (r : Rep C th F v y) (e : GmArg M y) : TyG C.K C.G H v := by
  rcases e with e | ⟨n, s, ws, rfl⟩
  · exact .inl ⟨_, e, tyx_at h r e⟩
  · obtain ⟨a, dx, fs, rfl, ha, _⟩ := gm_at h r
    exact .inr ⟨a, dx, fs, rfl, ha⟩
theorem th_eq {th t2 : List Addr} {F H F2 H2 : Hp} {M : MS} (h : Hs C th F H M) (h2 : Hs C t2 F2 H2 M) (l : Le th F t2 F2) : t2 = th := by
  refine List.ext_getElem? fun i => ?_
  by_cases hi : i < th.length
  · rw [List.getElem?_eq_getElem hi, l.pre i th[i] (List.getElem?_eq_getElem hi)]
  · have e1 := h.len
    have e2 := h2.len
    rw [List.getElem?_eq_none (by omega), List.getElem?_eq_none (by omega)]
theorem lk_gq : Lk2 C (rGq C.K C.G (upSp C sp_Game_eq)) rdGEq := by
  rintro x y M k v w th F H Q hs rx ry ⟨n, s, ws, rfl, ga, q⟩ kk
  obtain ⟨a, dx, fs, rfl, ha, _⟩ := gm_at hs rx
  refine ⟨a, dx, fs, rfl, ha, tyg_at hs ry ga, ?_⟩
  refine ⟨th, F, M, [.gm n s ws, y], X0, fun z M' => M' = M ∧ z = .bl (gmEq n s ws y), hs, .cons rx (.one ry), ⟨n, s, ws, y, rfl, ga, rfl, rfl⟩, fun z M' u t2 F2 H2 q2 hs2 l2 r2 => ?_, fun _ _ _ _ _ _ _ z => z.elim⟩
  obtain ⟨e1, e2⟩ := q2
  subst e1 e2
  cases r2
  have et := th_eq hs hs2 l2
  subst et
  exact ⟨⟨_, rfl⟩, kk _ _ F2 H2 q hs2 l2 (.bl _)⟩
theorem e_geq (G : Gq X.K c ps f fd) (F : FnOk X.prog X.w X.K X.mg X.base (L2.CX X.prog X.w) k f fd ps (upSp C sp_Game_eq)) (hr : Room k X.A) (ha : PE X a (upE C W da)) (hb : PE X b (upE C W db)) (hK : X.K = C.K := by rfl) (hG : c = C.G := by rfl) : PE X (.Compare a [.Eq] [b] pos) (upE C W (dOp rdGEq da db)) :=
  de_cmp (hG ▸ op_gq G F hr) (hK ▸ lk_gq) ha hb
theorem t_geq (G : Gq X.K c ps f fd) (F : FnOk X.prog X.w X.K X.mg X.base (L2.CX X.prog X.w) k f fd ps (upSp C sp_Game_eq)) (hr : Room k X.A) (ha : PE X a (upE C W da)) (hb : PE X b (upE C W db)) (hK : X.K = C.K := by rfl) (hG : c = C.G := by rfl) : PT X (.Compare a [.Eq] [b] pos) (upT C W (dB (dOp rdGEq da db))) :=
  dt_cmp (hG ▸ op_gq G F hr) (hK ▸ lk_gq) ha hb
end
/-! ### isinstance(x, Game) -/
structure Ic (K : PySem.W.Frag) (C : Addr) : Prop where
  cl : Cls K C
  ha : PySem.W.findIn K (.ref C) "__class__" = some (some (.builtin "object.__class__"))
  hn : PySem.W.specialIn K (.builtin "object.__class__") "__get__" = some (some (.builtin "getset_descriptor.__get__"))
  htk : PySem.W.takesIn K (.builtin "object.__class__") = some true
  hm : PySem.W.mroIn K C (.type "object") = some true
  ty : PySem.W.typeIn K (.ref C) = some (.type "type")
theorem Ic.one {K : PySem.W.Frag} {C : Addr} (c : Ic K C) {t : String} (h : t ∈ tyL) : PySem.W.kitOne K (.type t) (.ref C) = some false := by
  obtain ⟨cd, hc, _⟩ := PySem.W.any_some c.cl.hd
  unfold PySem.W.kitOne PySem.W.kitCls
  rw [if_neg (by simp)]
  dsimp only
  rw [hc, c.ty, if_pos (by simp)]
  exact sub_ty h
theorem Ic.me {K : PySem.W.Frag} {C : Addr} : PySem.W.kitOne K (.ref C) (.ref C) = some true := by
  unfold PySem.W.kitOne
  rw [if_pos (by simp)]
def isGm (y : D) : Bool := match y with
  | .gm _ _ _ => true
  | _ => false
abbrev rdIsiG : RA := fun xs M k => ∃ x, xs = [x, .gcl] ∧ GmArg M x ∧ k (.bl (isGm x))
theorem lk_isiG {C : Cn} (c : Ic C.K C.G) : LkA C (rIsi C.K) rdIsiG := by
  rintro xs M k vs th F H Q hs rx ⟨x, rfl, ga, q⟩ kk
  obtain ⟨v, w, rfl, r, r2⟩ := rx.two'
  cases r2
  rcases ga with e | ⟨n, s, ws, rfl⟩
  · have hb : isGm x = false := by
      cases x with
      | gm a b c => exact absurd e (by simp [tyN, tyL])
      | _ => rfl
    rw [hb] at q
    exact ⟨v, .ref C.G, _, .ref C.G, _, rfl, .own C.G, tyx_at hs r e, c.one e, kk _ _ F H q hs Le.rfl (.bl _)⟩
  · obtain ⟨a, dx, fs, rfl, ha, _⟩ := gm_at hs r
    exact ⟨_, .ref C.G, _, .ref C.G, _, rfl, .own C.G, .base (.ins ha c.cl c.ha c.hn c.htk c.hm), Ic.me, kk _ _ F H q hs Le.rfl (.bl _)⟩
theorem b_isiG {X : Cx} {C : Cn} {W : WX} {a b : Expr} {pos p : Pos} {ea : DA} (c : Ic C.K C.G) (hm : X.mg "isinstance" = none) (ha : PA X [a, b] (upA C W ea)) (hK : X.K = C.K := by rfl) (hg : Gl X "isinstance" := by rfl) (he : starEach [a, b] X.env = (false, eval a X.env) :: starEach [b] X.env := by rfl) (hpl : (backTo pos (starEach [b] X.env)).any (·.1) = false := by rfl) :
    PE X (.Call (.Name "isinstance" p) [a, b] [] pos) (upE C W (dCB rdIsiG ea)) := de_cb (hK ▸ call_isi) (lk_isiG c) hm (by decide +kernel) ha hg (by decide) (by decide) he hpl
end PD

/-! PDt: tuple * n for any n from 0 on. -/
namespace PD
open PySem PySem.Spec PyProof.Rows L2
theorem tuple_mul1 (l : Addr) (items : Array Value) (n : Nat) (dd : Option Addr) (sl : Array (Option Value)) (u : Tok) :
    Meets (Builtin.«tuple.__mul__» ⟨[.ref l, .int 1 u], []⟩) (fun _ R s => s.heap.get? l = some { cls := .type "tuple", dict := dd, data := .seq items n, slots := sl } ∧ R (.ok (.ret (Value.ref l))) s) :=
  .of_wp fun prog w A R s h => by
    obtain ⟨hp, g, d, tk, os⟩ := s
    obtain ⟨hl, h⟩ := h
    have f1 := AutoSeq1.idx_int
    have c0 : (decide ((1 : Int) < -(2 ^ 63)) || decide ((1 : Int) ≥ 2 ^ 63)) = false := by decide
    have c1 : (items.isEmpty || (1 : Int) == 1) = true := by simp
    wp_walk using wpAny_loadPart' hl
    repeat (first
      | (refine wpAny_ite_false (decide_eq_false (by rw [c0]; exact Bool.false_ne_true)) ?_; wp_walk using wpAny_loadPart' hl)
      | (refine wpAny_ite_true (decide_eq_true c1) ?_; wp_walk using wpAny_loadPart' hl))
    exact ⟨_, rfl, h⟩
theorem tuple_mul0 (l : Addr) (items : Array Value) (n : Nat) (dd : Option Addr) (sl : Array (Option Value)) (u : Tok) (c1 : items.isEmpty = false) :
    Meets (Builtin.«tuple.__mul__» ⟨[.ref l, .int 0 u], []⟩) (fun _ R s => s.heap.get? l = some { cls := .type "tuple", dict := dd, data := .seq items n, slots := sl } ∧
      R (.ok (.ret (Value.ref s.heap.objs.size))) { s with heap := s.heap.push { cls := Value.type "tuple", data := Data.seq #[] }, toks := s.toks }) :=
  .of_wp fun prog w A R s h => by
    obtain ⟨hp, g, d, tk, os⟩ := s
    obtain ⟨hl, h⟩ := h
    have f1 := AutoSeq1.idx_int
    have c0 : (decide ((0 : Int) < -(2 ^ 63)) || decide ((0 : Int) ≥ 2 ^ 63)) = false := by decide
    have c2 : (items.isEmpty || (0 : Int) == 1) = false := by rw [c1]; decide
    have c3 : (decide ((0 : Int) ≤ 0) || items.isEmpty) = true := by rw [c1]; decide
    wp_walk using wpAny_loadPart' hl
    repeat (first
      | (refine wpAny_ite_false (decide_eq_false (by rw [c0]; exact Bool.false_ne_true)) ?_; wp_walk using wpAny_loadPart' hl)
      | (refine wpAny_ite_false (decide_eq_false (by rw [c2]; exact Bool.false_ne_true)) ?_; wp_walk using wpAny_loadPart' hl)
      | (refine wpAny_ite_true (decide_eq_true c3) ?_; wp_walk using wpAny_loadPart' hl))
    exact ⟨_, rfl, h⟩
def rRepA (K : PySem.W.Frag) : R2 := fun x y H Q => ∃ l k xs, x = .ref l ∧ y = .int k ∧ SqT K H l xs ∧ xs ≠ [] ∧ 0 ≤ k ∧ k ≤ 1000 ∧ xs.length ≤ 1000 ∧ (k = 1 → Q (.ref l) H) ∧ (k ≠ 1 → ∀ p, H p = none → Q (.ref p) (upd H p (.tup (List.replicate k.toNat xs).flatten)))
section
variable {X : Cx}
theorem op_repA : OpR X (binaryOp .Mult) (rRepA X.K) := by
  intro pins s σ H x y v u Q I rx ry h
  obtain ⟨l, k, xs, rfl, rfl, hT, hne, h1, h2, hz, q1, q2⟩ := h
  by_cases hk : 2 ≤ k
  · exact op_repT pins s σ H _ _ v u Q I rx ry ⟨l, k, xs, rfl, rfl, hT, hne, hk, h2, hz, q2 (by omega)⟩
  cases rx
  obtain ⟨t, rfl⟩ := ry
  obtain ⟨its, r, ⟨⟨cls, dd, data, sl⟩, ho, hc, n, hd⟩, hs⟩ := I.tuple hT
  simp only at hc hd
  subst hc hd
  have hle : its.length = xs.length := r.length.symm
  have hn : its ≠ [] := fun e => hne (by
    rw [e] at hle
    exact List.eq_nil_of_length_eq_zero hle.symm)
  have hi : its.toArray.isEmpty = false := by
    cases its with
    | nil => exact absurd rfl hn
    | cons a b => rfl
  by_cases hk1 : k = 1
  · subst hk1
    refine wpAny_binaryOp_repeat_ref (T := "tuple") (U := "int") (by decide) ⟨_, ho, rfl⟩ (fun s' => typeIs_int s' 1 t) noFill_tuple_mul F.fills_int_mul F.slot_int_rmul repeat_tuple F.slot_int_index.lookup
      (call_meets F.slot_int_rmul (typeIs_int s 1 t) F.entry_int_rmul (F.args_int_rmul_2 _ _) (int_rmul_tuple 1 t l its.toArray n dd sl)
        ⟨ho, rfl, ⟨_, ho, rfl⟩, call_meets F.slot_tuple_mul ⟨_, ho, rfl⟩ F.entry_tuple_mul (F.args_tuple_mul_2 _ _) (tuple_mul1 l its.toArray n dd sl t) ⟨ho, ?_⟩⟩)
    exact ⟨.ref l, H, I, rfl, q1 rfl⟩
  · have hk0 : k = 0 := by omega
    subst hk0
    refine wpAny_binaryOp_repeat_ref (T := "tuple") (U := "int") (by decide) ⟨_, ho, rfl⟩ (fun s' => typeIs_int s' 0 t) noFill_tuple_mul F.fills_int_mul F.slot_int_rmul repeat_tuple F.slot_int_index.lookup
      (call_meets F.slot_int_rmul (typeIs_int s 0 t) F.entry_int_rmul (F.args_int_rmul_2 _ _) (int_rmul_tuple 0 t l its.toArray n dd sl)
        ⟨ho, rfl, ⟨_, ho, rfl⟩, call_meets F.slot_tuple_mul ⟨_, ho, rfl⟩ F.entry_tuple_mul (F.args_tuple_mul_2 _ _) (tuple_mul0 l its.toArray n dd sl t hi) ⟨ho, ?_⟩⟩)
    refine ⟨.ref s.heap.objs.size, _, I.laid (t' := s.toks) (o := .tup []) (fun b ob q => Heap.get?_push_of_some _ q) (Nat.le_refl _) ?_, rfl, q2 (by decide) _ (I.hok.fresh (Nat.le_refl _))⟩
    exact ⟨by rw [sizeLine_eq]; decide, [], .nil, IsTup.new _ _⟩
end
abbrev rdRepA : D → D → MS → (D → Prop) → Prop := fun x y M k => ∃ xs n, x = .tup xs ∧ y = .int n ∧ xs ≠ [] ∧ 0 ≤ n ∧ n ≤ 1000 ∧ xs.length ≤ 1000 ∧ k (.tup (List.replicate n.toNat xs).flatten)
section
variable {X : Cx} {C : Cn} {W : WX} {a b : Expr} {da db : DE} {pos : Pos} {th : List Addr} {F H : Hp} {M : MS}
theorem lk_repA : Lk2 C (rRepA C.K) rdRepA := by
  rintro x y M k v w th F H Q hs rx ry ⟨xs, n, rfl, rfl, hne, h0, h1, hz, q⟩ kk
  cases rx with
  | @tup a vs _ ha r1 =>
    cases ry
    refine ⟨a, n, vs, rfl, rfl, SqT.of (hs.ex _ _ ha), ?_, h0, h1, by rw [RepL.len r1]; exact hz, fun e => ?_, fun e p hp => ?_⟩
    · intro e
      subst e
      cases r1
      exact hne rfl
    · subst e
      refine kk _ _ F H q hs Le.rfl ?_
      have : (List.replicate (Int.toNat 1) xs).flatten = xs := by show (List.replicate 1 xs).flatten = xs; simp
      rw [this]
      exact .tup ha r1
    · have l : Le th F th (upd F p (.tup (List.replicate n.toNat vs).flatten)) := Le.nw (hs.ex.fr hp)
      exact kk _ _ _ _ q (hs.new hp) l (.tup upd_same (RepL.rep (r1.mono l)))
theorem e_repA (ha : PE X a (upE C W da)) (hb : PE X b (upE C W db)) (hK : X.K = C.K := by rfl) : PE X (.BinOp a .Mult b pos) (upE C W (dOp rdRepA da db)) := de_op (hK ▸ op_repA) lk_repA ha hb
end
end PD

/-! PDv: list.count. -/
namespace PD
open PySem PySem.Spec PyProof.Rows L2
def dCount (da db : DE) : DE := fun g M X k => da g M X fun x M1 => ∃ (l : List Int), x = .lst (iL l) ∧ db g M1 X fun y M2 => ∃ n : Int, y = .int n ∧ k (.int ((l.count n : Nat) : Int)) M2
section
variable {X : Cx} {C : Cn} {W : WX} {a b : Expr} {da db : DE}
theorem de_count {apos cpos : Pos} (ha : PE X a (upE C W da)) (hb : PE X b (upE C W db)) (hx : PE X (.Call (.Attribute a "count" apos) [b] [] cpos) (tBM X.K "list" (rCntI X.K) (upE C W da) (tCons (upE C W db) tNil))) : PE X (.Call (.Attribute a "count" apos) [b] [] cpos) (upE C W (dCount da db)) := pe_imp hx fun σ H Q h => by
  obtain ⟨th, F, g, M, X', P, p, h⟩ := h
  refine p.bind h fun x v t1 F1 H1 M1 h1 rx l1 p1 => ?_
  obtain ⟨l, rfl, h1⟩ := h1
  cases rx with
  | lst hf rs =>
    cases rs.ofI
    refine ⟨.inl ⟨rfl, _, SqL.of (p1.at_.hs.ex _ _ hf)⟩, p1.bind h1 fun y w t2 F2 H2 M2 h2 ry l2 p2 => ?_⟩
    obtain ⟨n, rfl, q⟩ := h2
    cases ry
    exact ⟨_, l, n, rfl, rfl, SqL.of (p2.at_.hs.ex _ _ (l2.ex _ _ hf)), p2.fin q (.int _)⟩
end
end PD

/-! PDw: comprehensions with two fors. -/
namespace PD
open PySem PySem.Spec PyProof.Rows L2
/-- [.. for .. in .. if .. for .. in .. if ..]; vs: all own names, vs1: those of the second for -/
def dLc2 (di : DIt) (dg : D → En → (En → Prop) → Prop) (dt : DT) (di1 : DIt) (dg1 : D → En → (En → Prop) → Prop) (dt1 : DT) (de : DE) (vs vs1 : List Nat) : DE := fun g M X k => di g M X fun ys M' => (∀ c ∈ M', ClnC c) ∧ ys.length < sizeLine ∧ ∃ Inv : Nat → List D → Prop, Inv 0 [] ∧
  (∀ (i : Nat) (y : D) (acc : List D), ys[i]? = some y → Inv i acc → (∀ d ∈ acc, Cln d) → dg y (wipeD g vs) fun g2 => dt g2 (M' ++ [.lst acc]) X0 fun b M2 => M2 = M' ++ [.lst acc] ∧
    if b = true then di1 g2 (M' ++ [.lst acc]) X0 fun zs M3 => M3 = M' ++ [.lst acc] ∧ ∃ Inv1 : Nat → List D → Prop, Inv1 0 acc ∧
      (∀ (j : Nat) (z : D) (acc1 : List D), zs[j]? = some z → Inv1 j acc1 → (∀ d ∈ acc1, Cln d) → acc1.length < sizeLine ∧ dg1 z (wipeD g2 vs1) fun g3 => dt1 g3 (M' ++ [.lst acc1]) X0 fun b M4 => M4 = M' ++ [.lst acc1] ∧
        if b = true then de g3 (M' ++ [.lst acc1]) X0 fun u M5 => M5 = M' ++ [.lst acc1] ∧ Cln u ∧ Inv1 (j + 1) (acc1 ++ [u]) else Inv1 (j + 1) acc1) ∧
      (∀ acc1, Inv1 zs.length acc1 → Inv (i + 1) acc1)
    else Inv (i + 1) acc) ∧
  ∀ acc, Inv ys.length acc → k (.lst acc) M'
section
variable {X : Cx} {C : Cn} {W : WX}
theorem in_it {J : It} {n : Nat} {G : Hp → Prop} {Y : Nat → Hp → V → Hp → Prop} (w : Walk J n G Y) {g : TG} {tt : TT} {te : TE} {vs : List Nat} {σ : L2.St} {H1 : Hp} {D : Addr} {Qd : Hp → Prop} (Pv : Nat → Hp → Prop) (h0 : Pv 0 H1) (hG : ∀ i H, i ≤ n → Pv i H → G H)
    (hs : ∀ i x H H', i < n → Pv i H → Y i H x H' → g x (wipe σ vs) H' fun σ2 H2 => wipe σ2 vs = wipe σ vs ∧ tt σ2 H2 fun b H3 =>
      if b = true then te σ2 H3 fun y H4 => ∃ acc, H4 D = some (.lst acc) ∧ acc.length < sizeLine ∧ Pv (i + 1) (upd H4 D (.lst (acc ++ [y]))) else Pv (i + 1) H3) (hd : ∀ H, Pv n H → Qd H) :
    ∃ W : Nat → Nat → Hp → Prop, (∃ m, W 0 m H1) ∧ ∀ i m H, W i m H →
      (J.stop i H ∧ Qd H) ∨ (J.go i H ∧ ∃ Nx : Hp → Prop, (∀ H', Nx H' → ∃ m', m' < m ∧ W (i + 1) m' H') ∧ ∀ x H', J.yld i H x H' → g x (wipe σ vs) H' fun σ2 H2 => wipe σ2 vs = wipe σ vs ∧ tt σ2 H2 fun b H3 =>
        if b = true then te σ2 H3 fun y H4 => ∃ acc, H4 D = some (.lst acc) ∧ acc.length < sizeLine ∧ Nx (upd H4 D (.lst (acc ++ [y]))) else Nx H3) := by
  refine ⟨fun i m H => m = n - i ∧ i ≤ n ∧ Pv i H, ⟨n, by simp, Nat.zero_le _, h0⟩, ?_⟩
  rintro i m H ⟨rfl, hi, p⟩
  have q := hG i H hi p
  by_cases hlt : i < n
  · refine .inr ⟨w.goes i H hlt q, Pv (i + 1), fun H' p' => ⟨n - (i + 1), by omega, rfl, hlt, p'⟩, fun x H' y => hs i x H H' hlt p (w.yields i H x H' hlt q y)⟩
  · have e : i = n := by omega
    subst e
    exact .inl ⟨w.stops H q, hd H p⟩
theorem out_it {J : It} {n : Nat} {G : Hp → Prop} {Y : Nat → Hp → V → Hp → Prop} (w : Walk J n G Y) {g : TG} {tt : TT} {B : L2.St → Hp → (Hp → Prop) → Prop} {vs : List Nat} {σ : L2.St} {H1 : Hp} {Qd : Hp → Prop} (Pv : Nat → Hp → Prop) (h0 : Pv 0 H1) (hG : ∀ i H, i ≤ n → Pv i H → G H)
    (hs : ∀ i x H H', i < n → Pv i H → Y i H x H' → g x (wipe σ vs) H' fun σ2 H2 => wipe σ2 vs = wipe σ vs ∧ tt σ2 H2 fun b H3 =>
      if b = true then B σ2 H3 (Pv (i + 1)) else Pv (i + 1) H3) (hd : ∀ H, Pv n H → Qd H) :
    ∃ W : Nat → Nat → Hp → Prop, (∃ m, W 0 m H1) ∧ ∀ i m H, W i m H →
      (J.stop i H ∧ Qd H) ∨ (J.go i H ∧ ∃ Nx : Hp → Prop, (∀ H', Nx H' → ∃ m', m' < m ∧ W (i + 1) m' H') ∧ ∀ x H', J.yld i H x H' → g x (wipe σ vs) H' fun σ2 H2 => wipe σ2 vs = wipe σ vs ∧ tt σ2 H2 fun b H3 =>
        if b = true then B σ2 H3 Nx else Nx H3) := by
  refine ⟨fun i m H => m = n - i ∧ i ≤ n ∧ Pv i H, ⟨n, by simp, Nat.zero_le _, h0⟩, ?_⟩
  rintro i m H ⟨rfl, hi, p⟩
  have q := hG i H hi p
  by_cases hlt : i < n
  · refine .inr ⟨w.goes i H hlt q, Pv (i + 1), fun H' p' => ⟨n - (i + 1), by omega, rfl, hlt, p'⟩, fun x H' y => hs i x H H' hlt p (w.yields i H x H' hlt q y)⟩
  · have e : i = n := by omega
    subst e
    exact .inl ⟨w.stops H q, hd H p⟩
theorem lc2_up {g g1 : TG} {di di1 : DIt} {dg dg1 : D → En → (En → Prop) → Prop} {dt dt1 : DT} {de : DE} {vs vs1 : List Nat} (tg : Tgt C vs g dg) (tg1 : Tgt C vs1 g1 dg1) : ∀ σ H Q, upE C W (dLc2 di dg dt di1 dg1 dt1 de vs vs1) σ H Q → tLc2 (upI C W di) g (upT C W0 dt) (upI C W0 di1) g1 (upT C W0 dt1) (upE C W0 de) vs vs1 σ H Q := fun σ H Q h => by
  obtain ⟨th, F, en, M, X', P, p, h⟩ := h
  refine ⟨th, F, en, M, X', _, p.at_, h, fun ys M' t1 F1 H1 J q hs1 l1 giv => ?_, p.ex⟩
  obtain ⟨hcl, hlen, Inv, i0, turn, done⟩ := q
  obtain ⟨G, Y, w, hG, hY⟩ := giv
  intro Dl hD
  have lp : Le t1 F1 (t1 ++ [Dl]) F1 := Le.push
  have atl : (t1 ++ [Dl])[M'.length]? = some Dl := by
    rw [List.getElem?_append_right (by rw [hs1.len]; exact Nat.le_refl _), hs1.len, Nat.sub_self]
    rfl
  have setl : ∀ (c c' : Cell), (M' ++ [c]).set M'.length c' = M' ++ [c'] := fun c c' => by
    rw [List.set_append_right _ _ (Nat.le_refl _), Nat.sub_self]
    rfl
  have getl : ∀ (c : Cell), (M' ++ [c])[M'.length]? = some c := fun c => by
    rw [List.getElem?_append_right (Nat.le_refl _), Nat.sub_self]
    rfl
  refine out_it w (B := fun σ2 H3 Nx => upI C W0 di1 σ2 H3 fun J1 H4 => ∃ W1 : Nat → Nat → Hp → Prop, (∃ m, W1 0 m H4) ∧ ∀ j k H, W1 j k H →
      (J1.stop j H ∧ Nx H) ∨ (J1.go j H ∧ ∃ Nx1 : Hp → Prop, (∀ H', Nx1 H' → ∃ k', k' < k ∧ W1 (j + 1) k' H') ∧ ∀ x H', J1.yld j H x H' → g1 x (wipe σ2 vs1) H' fun σ3 H5 => wipe σ3 vs1 = wipe σ2 vs1 ∧ upT C W0 dt1 σ3 H5 fun b H6 =>
        if b = true then upE C W0 de σ3 H6 fun y H7 => ∃ acc, H7 Dl = some (.lst acc) ∧ acc.length < sizeLine ∧ Nx1 (upd H7 Dl (.lst (acc ++ [y]))) else Nx1 H6))
    (fun i H' => ∃ th' F' acc, Hs C th' F' H' (M' ++ [.lst acc]) ∧ Le (t1 ++ [Dl]) F1 th' F' ∧ Inv i acc ∧ (∀ z ∈ acc, Cln z))
    ⟨t1 ++ [Dl], F1, [], hs1.push (c := .lst []) hD ⟨hs1.ex.fr hD, [], upd_same, .nil⟩, Le.rfl, i0, fun z hz => absurd hz List.not_mem_nil⟩ (fun i H' _ ⟨_, _, _, a2, l2, _⟩ => hG H' (l2.ex.tr a2.ex)) ?_ ?_
  · rintro i x H2 H3 hi ⟨t2, F2, acc, a2, l2, i2, c2⟩ y
    obtain ⟨F3, d, hs3, l3, ed, rd⟩ := hY i x H2 H3 t2 F2 _ hi y a2 (lp.tr l2)
    have l4 := l2.tr l3
    refine tg.run t2 F3 H3 _ x d σ (wipeD en vs) _ _ hs3 rd (((p.at_.sl.mono l1).mono (lp.tr l4)).wipe vs) (turn i d acc ed i2 c2) fun e' σ' q4 s4 ws => ⟨ws, ?_⟩
    refine ⟨t2, F3, e', _, X0, _, ⟨⟨hs3, s4⟩, fun b M2 v t5 F5 H5 q5 h5 l5 r5 => ?_, fun _ _ _ _ _ _ _ z => z.elim⟩, q4⟩
    cases r5
    obtain ⟨eM, q5⟩ := q5
    subst eM
    cases b with
    | false => exact ⟨t5, F5, acc, h5, l4.tr l5, q5, c2⟩
    | true =>
      refine ⟨t5, F5, e', _, X0, _, ⟨h5, s4.mono l5⟩, q5, fun zs M3 t6 F6 H6 J1 q6 h6 l6 giv1 => ?_, fun _ _ _ _ _ _ _ z => z.elim⟩
      obtain ⟨eM, Inv1, j0, turn1, done1⟩ := q6
      subst eM
      obtain ⟨G1, Y1, w1, hG1, hY1⟩ := giv1
      have l46 := (l4.tr l5).tr l6
      refine in_it w1 (fun j H' => ∃ th' F' acc1, Hs C th' F' H' (M' ++ [.lst acc1]) ∧ Le t6 F6 th' F' ∧ Inv1 j acc1 ∧ (∀ z ∈ acc1, Cln z)) ⟨t6, F6, acc, h6, Le.rfl, j0, c2⟩ (fun j H' _ ⟨_, _, _, a3, l3, _⟩ => hG1 H' (l3.ex.tr a3.ex)) ?_ ?_
      · rintro j x1 H7 H8 hj ⟨t7, F7, acc1, a7, l7, i7, c7⟩ y7
        obtain ⟨F8, d1, hs8, l8, ed1, rd1⟩ := hY1 j x1 H7 H8 t7 F7 _ hj y7 a7 l7
        obtain ⟨hsz, tn⟩ := turn1 j d1 acc1 ed1 i7 c7
        have l78 := l7.tr l8
        refine tg1.run t7 F8 H8 _ x1 d1 σ' (wipeD e' vs1) _ _ hs8 rd1 (((s4.mono l5).mono (l6.tr l78)).wipe vs1) tn fun e3 σ3 q9 s9 ws9 => ⟨ws9, ?_⟩
        refine ⟨t7, F8, e3, _, X0, _, ⟨⟨hs8, s9⟩, fun b M9 v t9 F9 H9 q10 h9 l9 r9 => ?_, fun _ _ _ _ _ _ _ z => z.elim⟩, q9⟩
        cases r9
        obtain ⟨eM, q10⟩ := q10
        subst eM
        cases b with
        | false => exact ⟨t9, F9, acc1, h9, l78.tr l9, q10, c7⟩
        | true =>
          refine ⟨t9, F9, e3, _, X0, _, ⟨⟨h9, s9.mono l9⟩, fun z M10 v t10 F10 H10 q11 h10 l10 r10 => ?_, fun _ _ _ _ _ _ _ z => z.elim⟩, q10⟩
          obtain ⟨eM, cz, q11⟩ := q11
          subst eM
          have l11 := (l78.tr l9).tr l10
          have et := (l46.tr l11).pre _ _ atl
          obtain ⟨nF, vs6, hv, rv⟩ := h10.cell _ _ _ (getl (.lst acc1)) et
          refine ⟨vs6, hv, by rw [RepL.len rv]; exact hsz, t10, F10, acc1 ++ [z], ?_, l11, q11, ?_⟩
          · rw [← setl (.lst acc1)]
            exact h10.put et nF ⟨nF, _, upd_same, rv.app (.one r10)⟩
          · intro u hu
            rcases List.mem_append.mp hu with hu | hu
            · exact c7 u hu
            · rw [List.mem_singleton.mp hu]; exact cz
      · rintro H7 ⟨t7, F7, acc1, a7, l7, i7, c7⟩
        exact ⟨t7, F7, acc1, a7, l46.tr l7, done1 acc1 i7, c7⟩
  · rintro H2 ⟨t2, F2, acc, a2, l2, i2, c2⟩
    have et := l2.pre _ _ atl
    obtain ⟨nF, vs2, hv, rv⟩ := a2.cell _ _ _ (getl (.lst acc)) et
    have hs5 := a2.popFreeze hcl et nF hv
    have l6 : Le (t2.take M'.length) F2 (t2.take M'.length) (upd F2 Dl (.lst vs2)) := Le.nw nF
    refine p.ok (.lst acc) M' (.ref Dl) _ _ H2 (done acc i2) hs5 (l1.tr ((le_take (lp.tr l2) (by rw [hs1.len]; exact Nat.le_refl _)).tr l6)) ?_
    exact .lst upd_same (RepL.mono l6 (RepL.cut c2 rv))
theorem de_lc2 {elt tgx iter tgx1 iter1 : Expr} {ifs ifs1 : List Expr} {scope : Scope} {own : List (Str × Nat)} {vs1 : List Nat} {pos : Pos} {g g1 : TG} {di di1 : DIt} {dg dg1 : D → En → (En → Prop) → Prop} {dt dt1 : DT} {de : DE} (hc : X.calm = true) (hN : X.N.Nodup) (tg : Tgt C (own.map (·.2)) g dg) (tg1 : Tgt C vs1 g1 dg1) (hi : PI X tgx iter (upI C W di)) (ok : BlkOk X.N X.env.scope scope own) (hv : ∀ i ∈ vs1, i ∈ own.map (·.2))
    (hg : ∀ (s : Shared) (H : Hp) (Ca : Addr) (cl : List (Str × Addr)) (fp : List Addr), PG (X.blk s H scope (compEnvC scope cl Ca X.env) fp) tgx g)
    (ht : ∀ (s : Shared) (H : Hp) (Ca : Addr) (cl : List (Str × Addr)) (fp : List Addr), PTs (X.blk s H scope (compEnvC scope cl Ca X.env) fp) ifs (upT C W0 dt))
    (hi1 : ∀ (s : Shared) (H : Hp) (Ca : Addr) (cl : List (Str × Addr)) (fp : List Addr), PI (X.blk s H scope (compEnvC scope cl Ca X.env) fp) tgx1 iter1 (upI C W0 di1))
    (hg1 : ∀ (s : Shared) (H : Hp) (Ca : Addr) (cl : List (Str × Addr)) (fp : List Addr), PG (X.blk s H scope (compEnvC scope cl Ca X.env) fp) tgx1 g1)
    (ht1 : ∀ (s : Shared) (H : Hp) (Ca : Addr) (cl : List (Str × Addr)) (fp : List Addr), PTs (X.blk s H scope (compEnvC scope cl Ca X.env) fp) ifs1 (upT C W0 dt1))
    (he : ∀ (s : Shared) (H : Hp) (Ca : Addr) (cl : List (Str × Addr)) (fp : List Addr), PE (X.blk s H scope (compEnvC scope cl Ca X.env) fp) elt (upE C W0 de)) (hs : ∀ x, foldedSetIterable iter X.env x = pure x := by intro _; rfl) (hs1 : ∀ env x, foldedSetIterable iter1 env x = pure x := by intro _ _; rfl) :
    PE X (.ListComp elt [⟨tgx, iter, ifs, 0⟩, ⟨tgx1, iter1, ifs1, 0⟩] scope pos) (upE C W (dLc2 di dg dt di1 dg1 dt1 de (own.map (·.2)) vs1)) := pe_imp (pe_lc2 hc hN hi ok hv hg ht hi1 hg1 ht1 he hs hs1) (lc2_up tg tg1)
/-- y = [.. for .. for ..], y a local name -/
theorem s_setLc2 {i : Nat} {y : Str} {py : Pos} {elt tgx iter tgx1 iter1 : Expr} {ifs ifs1 : List Expr} {scope : Scope} {own : List (Str × Nat)} {vs1 : List Nat} {pos spos : Pos} {g g1 : TG} {di di1 : DIt} {dg dg1 : D → En → (En → Prop) → Prop} {dt dt1 : DT} {de : DE} (hc : X.calm = true) (hN : X.N.Nodup) (tg : Tgt C (own.map (·.2)) g dg) (tg1 : Tgt C vs1 g1 dg1) (hi : PI X tgx iter (upI C W di)) (ok : BlkOk X.N X.env.scope scope own) (hv : ∀ i ∈ vs1, i ∈ own.map (·.2))
    (hg : ∀ (s : Shared) (H : Hp) (Ca : Addr) (cl : List (Str × Addr)) (fp : List Addr), PG (X.blk s H scope (compEnvC scope cl Ca X.env) fp) tgx g)
    (ht : ∀ (s : Shared) (H : Hp) (Ca : Addr) (cl : List (Str × Addr)) (fp : List Addr), PTs (X.blk s H scope (compEnvC scope cl Ca X.env) fp) ifs (upT C W0 dt))
    (hi1 : ∀ (s : Shared) (H : Hp) (Ca : Addr) (cl : List (Str × Addr)) (fp : List Addr), PI (X.blk s H scope (compEnvC scope cl Ca X.env) fp) tgx1 iter1 (upI C W0 di1))
    (hg1 : ∀ (s : Shared) (H : Hp) (Ca : Addr) (cl : List (Str × Addr)) (fp : List Addr), PG (X.blk s H scope (compEnvC scope cl Ca X.env) fp) tgx1 g1)
    (ht1 : ∀ (s : Shared) (H : Hp) (Ca : Addr) (cl : List (Str × Addr)) (fp : List Addr), PTs (X.blk s H scope (compEnvC scope cl Ca X.env) fp) ifs1 (upT C W0 dt1))
    (he : ∀ (s : Shared) (H : Hp) (Ca : Addr) (cl : List (Str × Addr)) (fp : List Addr), PE (X.blk s H scope (compEnvC scope cl Ca X.env) fp) elt (upE C W0 de))
    (hsw : swapsWith (.ListComp elt [⟨tgx, iter, ifs, 0⟩, ⟨tgx1, iter1, ifs1, 0⟩] scope pos) (some (.Name y py)) spos.line X.env = pure true) (hy : X.N[i]? = some y := by rfl) (hyl : X.env.scope.names.lookup y = some .local := by rfl) (hs : ∀ x, foldedSetIterable iter X.env x = pure x := by intro _; rfl) (hs1 : ∀ env x, foldedSetIterable iter1 env x = pure x := by intro _ _; rfl) :
    PS X (.Assign [.Name y py] (.ListComp elt [⟨tgx, iter, ifs, 0⟩, ⟨tgx1, iter1, ifs1, 0⟩] scope pos) spos) (upS C W (sAsg (dLc2 di dg dt di1 dg1 dt1 de (own.map (·.2)) vs1) (gN i))) := ps_imp (ps_setLc2 hc hN hy hyl hsw hi ok hv hg ht hi1 hg1 ht1 he hs hs1) fun De σ H h => by
  obtain ⟨th, F, g', M, N, a, k, h⟩ := h
  refine lc2_up tg tg1 σ H _ ((k.pk (rel := rD C) (P := fun y M' => N.nx (g'.set i (some y)) M') a fun y M' v th' F' H' p h l r => k.nx _ M' _ th' F' H' p ⟨h.hs, h.sl.set i r⟩ l).mk_up h)
def tSeqI (K : PySem.W.Frag) (t : TE) : TI := fun σ H R => t σ H fun v H1 => ∃ a, v = .ref a ∧ (((∃ xs, SqL K H1 a xs) ∧ R (Itl K a) H1) ∨ ((∃ xs, SqT K H1 a xs) ∧ R (Itt K a) H1))
end
section
variable {X : Cx} {C : Cn} {W : WX} {tg a : Expr} {da : DE}
theorem pi_seq {l : Expr} {tl : TE} (hl : PE X l tl) : PI X tg l (tSeqI X.K tl) := by
  refine ⟨fun pins s σ H R I h => ?_⟩
  refine thn (hl.run pins s σ H _ I h) fun v s1 ⟨x, H1, I1, r1, q1⟩ => ?_
  obtain ⟨a, e, q⟩ := q1
  subst e
  cases r1
  rcases q with ⟨⟨xs, hq⟩, q⟩ | ⟨⟨xs, hq⟩, q⟩
  · obtain ⟨its, rv, p, hz⟩ := I1.list hq
    refine wpAny_pyIter_list p.isList ?_
    refine ⟨s1.heap.objs.size, [s1.heap.objs.size], _, _, H1, rfl, I1.kept (t' := s1.toks) fun b o e => Heap.get?_push_of_some _ e, turn_list a _, ⟨_, Heap.get?_push_size _ rfl, rfl, rfl⟩, fun b hb => ?_, q⟩
    have e : b = s1.heap.objs.size := by simpa using hb
    subst e
    exact I1.fpOk (Nat.le_refl _) (I1.hok.fresh (Nat.le_refl _))
  · obtain ⟨its, rv, p, hz⟩ := I1.tuple hq
    refine wpAny_pyIter_tuple (show s1.heap.IsTuple a its.toArray from p) ?_
    refine ⟨s1.heap.objs.size, [s1.heap.objs.size], _, _, H1, rfl, I1.kept (t' := s1.toks) fun b o e => Heap.get?_push_of_some _ e, turn_tuple a _, ⟨_, Heap.get?_push_size _ rfl, rfl, rfl⟩, fun b hb => ?_, q⟩
    have e : b = s1.heap.objs.size := by simpa using hb
    subst e
    exact I1.fpOk (Nat.le_refl _) (I1.hok.fresh (Nat.le_refl _))
theorem i_seq (ha : PE X a (upE C W da)) (hK : X.K = C.K := by rfl) : PI X tg a (upI C W (iSeq da)) := ⟨fun pins s σ H R I h => (pi_seq ha).run pins s σ H R I (by
  obtain ⟨th, F, g, M, X', P, at_, h, ok, ex⟩ := h
  refine ⟨th, F, g, M, X', _, ⟨at_, fun x M1 v t1 F1 H1 q hs l r => ?_, ex⟩, h⟩
  obtain ⟨ys, e, q⟩ := q
  rcases e with e | e
  · subst e
    cases r with
    | @lst ad vs _ hf rs => exact ⟨ad, rfl, .inl ⟨⟨vs, SqL.of (hs.ex _ _ hf)⟩, ok ys M1 t1 F1 H1 _ q hs l (giv_at walk_list (fun H e => SqL.of (e _ _ hf)) rs)⟩⟩
  · subst e
    cases r with
    | @tup ad vs _ hf rs => exact ⟨ad, rfl, .inr ⟨⟨vs, SqT.of (hs.ex _ _ hf)⟩, ok ys M1 t1 F1 H1 _ q hs l (giv_at walk_tup (fun H e => SqT.of (e _ _ hf)) rs)⟩⟩)⟩
end
end PD

/-! PDzb: dicts of counts; sorted of tuples and ints. -/
namespace PD
open PySem PySem.Spec PyProof.Rows L2
/-- a key, as a thing -/
def kD (t : Bool) (k : List Int) : D := if t = true then .tup (iL k) else .int (k.headD 0)
def getC (kvs : List (List Int × Int)) (k : List Int) : Option Int := (kvs.find? fun p => decide (p.1 = k)).map (·.2)
def putC (kvs : List (List Int × Int)) (k : List Int) (n : Int) : List (List Int × Int) := if (kvs.any fun p => decide (p.1 = k)) = true then kvs.map (fun p => if p.1 = k then (p.1, n) else p) else kvs ++ [(k, n)]
/-- ints are keys of one number -/
def OneK (t : Bool) (kvs : List (List Int × Int)) (k : List Int) : Prop := t = false → k.length = 1 ∧ ∀ p ∈ kvs, p.1.length = 1
section
variable {κ : Type} [DecidableEq κ] {f : List Int → κ} {k : List Int}
theorem val_map : ∀ {kvs : List (List Int × Int)}, (∀ p ∈ kvs, f p.1 = f k ↔ p.1 = k) → valV (kvs.map fun p => (f p.1, V.int p.2)) (f k) = (getC kvs k).map V.int
  | [], _ => rfl
  | p :: r, h => by
    have h0 := h p List.mem_cons_self
    have ih := val_map (kvs := r) fun q hq => h q (List.mem_cons_of_mem _ hq)
    rw [List.map_cons]
    by_cases e : p.1 = k
    · rw [valV_pos (show (f p.1, V.int p.2).1 = f k from h0.mpr e)]
      simp [getC, List.find?_cons, e]
    · rw [valV_neg (show ¬ (f p.1, V.int p.2).1 = f k from fun z => e (h0.mp z)), ih]
      simp [getC, List.find?_cons, e]
theorem put_map {kvs : List (List Int × Int)} (h : ∀ p ∈ kvs, f p.1 = f k ↔ p.1 = k) (n : Int) : putK (kvs.map fun p => (f p.1, V.int p.2)) (f k) (V.int n) = (putC kvs k n).map fun p => (f p.1, V.int p.2) := by
  have ea : ((kvs.map fun p => (f p.1, V.int p.2)).any fun kv => decide (kv.1 = f k)) = kvs.any fun p => decide (p.1 = k) := by
    rw [Bool.eq_iff_iff, List.any_eq_true, List.any_eq_true]
    constructor
    · rintro ⟨x, hx, hd⟩
      obtain ⟨p, hp, rfl⟩ := List.mem_map.mp hx
      exact ⟨p, hp, decide_eq_true ((h p hp).mp (of_decide_eq_true hd))⟩
    · rintro ⟨p, hp, hd⟩
      exact ⟨_, List.mem_map.mpr ⟨p, hp, rfl⟩, decide_eq_true ((h p hp).mpr (of_decide_eq_true hd))⟩
  unfold putK putC
  rw [ea]
  by_cases q : (kvs.any fun p => decide (p.1 = k)) = true
  · rw [if_pos q, if_pos q, List.map_map, List.map_map]
    refine List.map_congr_left fun p hp => ?_
    show (if f p.1 = f k then (f p.1, V.int n) else (f p.1, V.int p.2)) = _
    by_cases e : p.1 = k
    · rw [if_pos ((h p hp).mpr e)]
      simp [e]
    · rw [if_neg fun z => e ((h p hp).mp z)]
      simp [e]
  · rw [if_neg q, if_neg q, List.map_append]
    rfl
end
theorem inl_inj : ∀ {a b : List Int}, (a.map Sum.inl : List Key) = b.map Sum.inl ↔ a = b := by
  intro a b
  constructor
  · intro h
    exact (List.map_inj_right fun x y e => by injection e).mp h
  · rintro rfl; rfl
theorem one_inj {a b : List Int} (ha : a.length = 1) (hb : b.length = 1) : (Sum.inl (a.headD 0) : Key) = Sum.inl (b.headD 0) ↔ a = b := by
  obtain ⟨x, rfl⟩ := List.length_eq_one_iff.mp ha
  obtain ⟨y, rfl⟩ := List.length_eq_one_iff.mp hb
  simp
theorem keys_map (k : List Int) : (k.map Sum.inl : List Key).map kV = k.map V.int := by
  rw [List.map_map]
  rfl
section
variable {C : Cn} {th : List Addr} {F H : Hp} {M : MS} {v : V} {a : Addr} {t : Bool} {kvs : List (List Int × Int)} {k : List Int}
theorem dic_len : (kvs.map fun p => ((p.1.map Sum.inl : List Key), V.int p.2)).length = kvs.length := List.length_map _
theorem dget_of (ex : Ex F H) (e : H a = some (dicO t kvs)) (r : Rep C th F v (kD t k)) (o : OneK t kvs k) : DGet H a v ((getC kvs k).map V.int) := by
  cases t with
  | false =>
    obtain ⟨h1, h2⟩ := o rfl
    cases r
    have := DGet.k (k := Sum.inl (k.headD 0)) (show H a = some (.dK (kvs.map fun p => (Sum.inl (p.1.headD 0), V.int p.2))) from e)
    rw [val_map (f := fun l : List Int => (Sum.inl (l.headD 0) : Key)) fun p hp => one_inj (h2 p hp) h1] at this
    exact this
  | true =>
    cases r with
    | @tup b vs _ hf rs =>
      cases rs.ofI
      have := DGet.t (k := k.map Sum.inl) (b := b) (show H a = some (.dT (kvs.map fun p => (p.1.map Sum.inl, V.int p.2))) from e) (by rw [keys_map]; exact ex _ _ hf)
      rw [val_map (f := fun l : List Int => (l.map Sum.inl : List Key)) fun p hp => inl_inj] at this
      exact this
theorem dput_of (ex : Ex F H) (e : H a = some (dicO t kvs)) (r : Rep C th F v (kD t k)) (o : OneK t kvs k) (hl : kvs.length < sizeLine) (n : Int) : DPut H a v (.int n) (upd H a (dicO t (putC kvs k n))) := by
  cases t with
  | false =>
    obtain ⟨h1, h2⟩ := o rfl
    cases r
    have := DPut.k (k := Sum.inl (k.headD 0)) (v := .int n) (show H a = some (.dK (kvs.map fun p => (Sum.inl (p.1.headD 0), V.int p.2))) from e) (by rw [List.length_map]; exact hl)
    rw [put_map (f := fun l : List Int => (Sum.inl (l.headD 0) : Key)) fun p hp => one_inj (h2 p hp) h1] at this
    exact this
  | true =>
    cases r with
    | @tup b vs _ hf rs =>
      cases rs.ofI
      have := DPut.t (k := k.map Sum.inl) (b := b) (v := .int n) (show H a = some (.dT (kvs.map fun p => (p.1.map Sum.inl, V.int p.2))) from e) (by rw [keys_map]; exact ex _ _ hf) (by rw [List.length_map]; exact hl)
      rw [put_map (f := fun l : List Int => (l.map Sum.inl : List Key)) fun p hp => inl_inj] at this
      exact this
theorem isD_of (e : H a = some (dicO t kvs)) : IsD H a := by
  cases t with
  | false => exact .inl ⟨_, .inl e⟩
  | true => exact .inr ⟨_, .inl e⟩
theorem dic_at (hs : Hs C th F H M) {j : Nat} (et : th[j]? = some a) (e : M[j]? = some (.dic t kvs)) : F a = none ∧ H a = some (dicO t kvs) := hs.cell _ _ _ e et
/-- a tuple that stands there is told -/
theorem tell_one (hs : Hs C th F H M) {b : Addr} {xs : List V} (hb : H b = some (.tup xs)) : ∃ F1, Hs C th F1 H M ∧ Le th F th F1 ∧ F1 b = some (.tup xs) := by
  cases hF : F b with
  | some o =>
    have := hs.ex _ _ hF
    rw [hb] at this
    cases this
    exact ⟨F, hs, Le.rfl, hF⟩
  | none =>
    refine ⟨_, hs.tell hb hF fun j a' e z => ?_, Le.nw hF, upd_same⟩
    subst z
    have hj : j < M.length := by rw [← hs.len]; exact (List.getElem?_eq_some_iff.mp e).1
    have hc := hs.cell j M[j] a' (List.getElem?_eq_getElem hj) e
    cases hM : M[j] with
    | dead => rw [hM] at hc; obtain ⟨o, ho⟩ := hc; rw [hF] at ho; cases ho
    | lst xs => rw [hM] at hc; obtain ⟨_, vs, h, _⟩ := hc; rw [hb] at h; cases h
    | ins c fs => rw [hM] at hc; obtain ⟨_, dx, gs, h, _⟩ := hc; rw [hb] at h; cases h
    | rng => rw [hM] at hc; obtain ⟨_, ns, h, _⟩ := hc; rw [hb] at h; cases h
    | dic t kvs =>
      rw [hM] at hc
      obtain ⟨_, h⟩ := hc
      rw [hb] at h
      cases t <;> cases h
theorem tell_all : ∀ {kvs : List (List Int × Int)} {bs : List Addr} {F : Hp}, Hs C th F H M → IsKeys H (kvs.map fun p => ((p.1.map Sum.inl : List Key), V.int p.2)) bs → ∃ F1, Hs C th F1 H M ∧ Le th F th F1 ∧ RepL C th F1 (bs.map V.ref) (kvs.map fun p => kD true p.1)
  | [], _, F, hs, h => by
    cases h
    exact ⟨F, hs, Le.rfl, .nil⟩
  | p :: kvs, _, F, hs, h => by
    cases h with
    | @cons _ b _ bs h1 h2 =>
      have h1 : H b = some (.tup ((p.1.map Sum.inl : List Key).map kV)) := h1
      rw [keys_map] at h1
      obtain ⟨F1, hs1, l1, e1⟩ := tell_one hs h1
      obtain ⟨F2, hs2, l2, r2⟩ := tell_all hs1 h2
      exact ⟨F2, hs2, l1.tr l2, .cons (.tup (l2.ex _ _ e1) (RepL.iL _)) r2⟩
end
/-- {}, a dict of counts of either kind -/
def dNewDic : DE := fun _ M _ k => ∃ t, k (.ptr M.length) (M ++ [.dic t []])
/-- d.get(y, z) -/
def dDGet2 (dd dk dz : DE) : DE := fun g M X q => dd g M X fun x M1 => ∃ j, x = .ptr j ∧ (∃ t kvs, M1[j]? = some (.dic t kvs)) ∧ dk g M1 X fun y M2 => dz g M2 X fun z M3 => ∃ t kvs k n, M3[j]? = some (.dic t kvs) ∧ y = kD t k ∧ OneK t kvs k ∧ z = .int n ∧ q (.int ((getC kvs k).getD n)) M3
/-- d[y] -/
def dDix (dd dk : DE) : DE := fun g M X q => dd g M X fun x M1 => dk g M1 X fun y M2 => ∃ j t kvs k n, x = .ptr j ∧ M2[j]? = some (.dic t kvs) ∧ y = kD t k ∧ OneK t kvs k ∧ getC kvs k = some n ∧ q (.int n) M2
/-- d[y] = z -/
def sDPutD (dz dd dk : DE) : DS := fun g M N => dz g M (fun e M' => N.ex e g M') fun z M1 => dd g M1 (fun e M' => N.ex e g M') fun x M2 => dk g M2 (fun e M' => N.ex e g M') fun y M3 =>
  ∃ j t kvs k n, x = .ptr j ∧ M3[j]? = some (.dic t kvs) ∧ y = kD t k ∧ OneK t kvs k ∧ z = .int n ∧ kvs.length < sizeLine ∧ N.nx g (M3.set j (.dic t (putC kvs k n)))
abbrev rdListC : RA := fun xs M k => ∃ j t kvs, xs = [.ptr j] ∧ M[j]? = some (.dic t kvs) ∧ k (.lst (kvs.map fun p => kD t p.1))
abbrev rdSortX : RA := fun xs M k => ∃ (x : D) (t : Bool) (ks : List (List Int)) (d : Nat) (B : Int), xs = [x] ∧ lstOf x M = some (ks.map (kD t)) ∧ ks.length < 64 ∧ (t = false → d = 1) ∧ 1 ≤ d ∧ (∀ u ∈ ks, u.length = d ∧ TS.Bd B u) ∧
  ∀ ks' : List (List Int), ks'.Perm ks → ks'.Pairwise (fun u v => TS.code B u ≤ TS.code B v) → k (.lst (ks'.map (kD t)))
section
variable {C : Cn}
def rListC : List V → Hp → VK → Prop := fun xs H Q => (∃ (a : Addr) (kvs : List (Key × V)), xs = [.ref a] ∧ Rd H a (.dK kvs) ∧ ∀ p, H p = none → Q (.ref p) (upd H p (.lst (kvs.map fun kv => kV kv.1)))) ∨
  ∃ d kvs, xs = [V.ref d] ∧ Rd H d (.dT kvs) ∧ ∀ p bs, H p = none → IsKeys H kvs bs → Q (.ref p) (upd H p (.lst (bs.map V.ref)))
theorem lk_listC : LkA C rListC rdListC := by
  rintro xs M k vs th F H Q hs rx ⟨j, t, kvs, rfl, e, q⟩ kk
  obtain ⟨v, rfl, r⟩ := rx.one'
  cases r with
  | @ptr a _ et =>
    obtain ⟨_, h⟩ := dic_at hs et e
    cases t with
    | false =>
      refine .inl ⟨a, _, rfl, .inl h, fun p hp => ?_⟩
      have l : Le th F th (upd F p (.lst (kvs.map fun q => V.int (q.1.headD 0)))) := Le.nw (hs.ex.fr hp)
      have e1 : ((kvs.map fun p => ((Sum.inl (p.1.headD 0) : Key), V.int p.2)).map fun kv => kV kv.1) = kvs.map fun q => V.int (q.1.headD 0) := by rw [List.map_map]; rfl
      rw [e1]
      refine kk _ _ _ _ q (hs.new hp) l (.lst upd_same ?_)
      have e2 : (kvs.map fun q => V.int (q.1.headD 0)) = (kvs.map fun q => q.1.headD 0).map V.int := by rw [List.map_map]; rfl
      have e3 : (kvs.map fun p => kD false p.1) = iL (kvs.map fun q => q.1.headD 0) := by unfold iL; rw [List.map_map]; rfl
      rw [e2, e3]
      exact RepL.iL _
    | true =>
      refine .inr ⟨a, _, rfl, .inl h, fun p bs hp hk => ?_⟩
      obtain ⟨F1, hs1, l1, r1⟩ := tell_all hs hk
      have l2 : Le th F1 th (upd F1 p (.lst (bs.map V.ref))) := Le.nw (hs1.ex.fr hp)
      exact kk _ _ _ _ q (hs1.new hp) (l1.tr l2) (.lst upd_same (r1.mono l2))
/-- sorted of ints, or of tuples of d ints below B -/
def rSortX (K : PySem.W.Frag) : List V → Hp → VK → Prop := fun vs H Q => rSortedI K vs H Q ∨ ∃ d B, 1 ≤ d ∧ rSortU K d B vs H Q
theorem cr_sortX {X : Cx} : CallR X (.builtin "sorted") (rSortX X.K) := by
  intro pins s σ H xs us Q I r h
  rcases h with h | ⟨d, B, hd, h⟩
  · exact cr_sortedI pins s σ H xs us Q I r h
  · exact cr_sortT hd pins s σ H xs us Q I r h
theorem perm_iL {ks : List (List Int)} {l' : List Int} (h : l'.Perm (ks.map fun u => u.headD 0)) (h1 : ∀ u ∈ ks, u.length = 1) : (l'.map fun i => [i]).Perm ks := by
  have e : (ks.map fun u => u.headD 0).map (fun i => [i]) = ks := by
    rw [List.map_map]
    refine (List.map_congr_left fun u hu => ?_).trans (List.map_id _)
    obtain ⟨x, rfl⟩ := List.length_eq_one_iff.mp (h1 u hu)
    rfl
  have := h.map fun i => [i]
  rw [e] at this
  exact this
theorem code_one (B i : Int) : TS.code B [i] = i := by
  show i * B ^ 0 + 0 = i
  rw [Int.pow_zero, Int.mul_one, Int.add_zero]
theorem lk_sortX : LkA C (rSortX C.K) rdSortX := by
  rintro xs M k vs th F H Q hs rx ⟨x, t, ks, d, B, rfl, e, h64, h1, hd, hB, q⟩ kk
  obtain ⟨v, rfl, r⟩ := rx.one'
  obtain ⟨a, ws, rfl, h2, r1⟩ := lst_at hs r e
  cases t with
  | false =>
    have hd1 := h1 rfl
    have e3 : ks.map (kD false) = iL (ks.map fun u => u.headD 0) := by unfold iL; rw [List.map_map]; rfl
    rw [e3] at r1
    cases r1.ofI
    refine .inl ⟨a, _, rfl, SqL.of h2, fun l' p pm hp2 hp => ?_⟩
    have l : Le th F th (upd F p (.lst (l'.map V.int))) := Le.nw (hs.ex.fr hp)
    have e4 : (l'.map fun i => [i]).map (kD false) = iL l' := by unfold iL; rw [List.map_map]; rfl
    refine kk _ _ _ _ (q _ (perm_iL pm fun u hu => by rw [(hB u hu).1, hd1]) ?_) (hs.new hp) l (.lst upd_same (by rw [e4]; exact RepL.iL _))
    rw [List.pairwise_map]
    refine hp2.imp fun {x y} hxy => ?_
    rw [code_one, code_one]
    exact hxy
  | true =>
    have tup : ∀ {ks : List (List Int)} {ws : List V}, RepL C th F ws (ks.map (kD true)) → ∀ x ∈ ws, ∃ u ∈ ks, TupI C.K H x u := by
      intro ks
      induction ks with
      | nil => intro ws r x hx; cases r; cases hx
      | cons u ks ih =>
        intro ws r x hx
        cases r with
        | cons r0 rr =>
          rcases List.mem_cons.mp hx with rfl | hx
          · cases r0 with
            | @tup b vs _ hf rs =>
              cases rs.ofI
              exact ⟨u, List.mem_cons_self, b, rfl, SqT.of (hs.ex _ _ hf)⟩
          · obtain ⟨w, hw, ht⟩ := ih rr x hx
            exact ⟨w, List.mem_cons_of_mem _ hw, ht⟩
    refine .inr ⟨d, B, hd, a, ws, rfl, SqL.of h2, by rw [RepL.len r1, List.length_map]; exact h64, fun x hx => ?_, fun ys p pm pw hp => ?_⟩
    · obtain ⟨u, hu, ht⟩ := tup r1 x hx
      exact ⟨u, ht, hB u hu⟩
    · have l : Le th F th (upd F p (.lst ys)) := Le.nw (hs.ex.fr hp)
      have back : ∀ {ws ys : List V}, ys.Perm ws → ∀ {ks : List (List Int)}, RepL C th F ws (ks.map (kD true)) → ∃ ks' : List (List Int), ks'.Perm ks ∧ RepL C th F ys (ks'.map (kD true)) := by
        intro ws ys pm
        induction pm with
        | nil => intro ks r; exact ⟨ks, List.Perm.refl _, r⟩
        | cons x _ ih =>
          intro ks r
          cases ks with
          | nil => cases r
          | cons u ks =>
            cases r with
            | cons r0 rr =>
              obtain ⟨ks', p', r'⟩ := ih rr
              exact ⟨u :: ks', p'.cons u, .cons r0 r'⟩
        | swap x y l =>
          intro ks r
          cases ks with
          | nil => cases r
          | cons u ks =>
            cases r with
            | cons r0 rr =>
              cases ks with
              | nil => cases rr
              | cons u2 ks =>
                cases rr with
                | cons r2 rr => exact ⟨u2 :: u :: ks, List.Perm.swap _ _ _, .cons r2 (.cons r0 rr)⟩
        | trans _ _ ih1 ih2 =>
          intro ks r
          obtain ⟨k1, p1, r1⟩ := ih2 r
          obtain ⟨k2, p2, r2⟩ := ih1 r1
          exact ⟨k2, p2.trans p1, r2⟩
      obtain ⟨ks', pk, rk⟩ := back pm r1
      refine kk _ _ _ _ (q ks' pk ?_) (hs.new hp) l (.lst upd_same (rk.mono l))
      have pw2 : ∀ {ks' : List (List Int)} {ys : List V}, ys.Pairwise (fun x y => ∀ n m, TupI C.K H x n → TupI C.K H y m → TS.code B n ≤ TS.code B m) → RepL C th F ys (ks'.map (kD true)) → ks'.Pairwise (fun u v => TS.code B u ≤ TS.code B v) := by
        intro ks'
        induction ks' with
        | nil => intro _ _ _; exact List.Pairwise.nil
        | cons u ks' ih =>
          intro ys pw r
          cases r with
          | cons r0 rr =>
            obtain ⟨p1, p2⟩ := List.pairwise_cons.mp pw
            refine List.pairwise_cons.mpr ⟨fun w hw => ?_, ih p2 rr⟩
            obtain ⟨i, hi⟩ := List.mem_iff_getElem?.mp hw
            obtain ⟨x, hx, rx⟩ := RepL.get rr (i := i) (d := kD true w) (by rw [List.getElem?_map, hi]; rfl)
            cases rx with
            | @tup b vs _ hf rs =>
              cases rs.ofI
              cases r0 with
              | @tup b0 vs0 _ hf0 rs0 =>
                cases rs0.ofI
                exact p1 _ (List.mem_of_getElem? hx) u w ⟨b0, rfl, SqT.of (hs.ex _ _ hf0)⟩ ⟨b, rfl, SqT.of (hs.ex _ _ hf)⟩
      exact pw2 pw rk
end
section
variable {X : Cx} {C : Cn} {W : WX} {a b c e : Expr} {da db dc : DE} {ea : DA} {pos p p2 apos cpos : Pos}
theorem de_newDic : PE X (.Dict [] [] pos) (upE C W dNewDic) := ⟨fun pins s σ H Q I h => by
  obtain ⟨th, F, g, M, X', P, p, t, h⟩ := h
  have fin : ∀ q, H q = none → Q (.ref q) (upd H q (dicO t [])) := fun q hq =>
    p.ok _ _ (.ref q) (th ++ [q]) F _ h (p.at_.hs.push hq ⟨p.at_.hs.ex.fr hq, upd_same⟩) Le.push (.ptr (by
      rw [List.getElem?_append_right (by rw [p.at_.hs.len]; exact Nat.le_refl _), p.at_.hs.len, Nat.sub_self]
      rfl))
  cases t with
  | false => exact pe_dnewK.run pins s σ H Q I fin
  | true => exact pe_dnewT.run pins s σ H Q I fin⟩
theorem de_dget2 (hu : X.A.units + 64 < cLine) (ha : PE X a (upE C W da)) (hb : PE X b (upE C W db)) (hc : PE X c (upE C W dc)) (m : M2 X a "get" apos b c cpos) : PE X (.Call (.Attribute a "get" apos) [b, c] [] cpos) (upE C W (dDGet2 da db dc)) := pe_imp (pe_dget2 (by omega) ha hb hc m) fun σ H Q h => by
  obtain ⟨th, F, g, M, X', P, p, h⟩ := h
  refine p.bind h fun x v t1 F1 H1 M1 h1 rx l1 p1 => ?_
  obtain ⟨j, rfl, ⟨t0, kvs0, e0⟩, h1⟩ := h1
  cases rx with
  | @ptr ad _ et =>
    refine ⟨ad, rfl, isD_of (dic_at p1.at_.hs et e0).2, p1.bind h1 fun y w t2 F2 H2 M2 h2 ry l2 p2 => p2.bind h2 fun z u t3 F3 H3 M3 h3 rz l3 p3 => ?_⟩
    obtain ⟨t, kvs, k, n, e, rfl, o, rfl, q⟩ := h3
    cases rz
    obtain ⟨_, hd⟩ := dic_at p3.at_.hs ((l2.tr l3).pre _ _ et) e
    refine ⟨_, dget_of p3.at_.hs.ex hd (ry.mono l3) o, ?_⟩
    have en : (((getC kvs k).map V.int).getD (.int n)) = .int ((getC kvs k).getD n) := by cases getC kvs k <;> rfl
    rw [en]
    exact p3.fin q (.int _)
theorem de_dix (hu : X.A.units + 64 < cLine) (ha : PE X a (upE C W da)) (hb : PE X b (upE C W db)) (hs : NoSl b := by exact fun _ _ => rfl) : PE X (.Subscript a b pos) (upE C W (dDix da db)) := pe_imp (pe_dget (by omega) ha hb hs) fun σ H Q h => by
  obtain ⟨th, F, g, M, X', P, p, h⟩ := h
  refine p.bind h fun x v t1 F1 H1 M1 h1 rx l1 p1 => p1.bind h1 fun y w t2 F2 H2 M2 h2 ry l2 p2 => ?_
  obtain ⟨j, t, kvs, k, n, rfl, e, rfl, o, en, q⟩ := h2
  cases rx with
  | @ptr ad _ et =>
    obtain ⟨_, hd⟩ := dic_at p2.at_.hs (l2.pre _ _ et) e
    have := dget_of p2.at_.hs.ex hd ry o
    rw [en] at this
    exact ⟨ad, _, rfl, this, p2.fin q (.int _)⟩
theorem s_dput (hu : X.A.units + 64 < cLine) (hz : PE X e (upE C W dc)) (ha : PE X a (upE C W da)) (hb : PE X b (upE C W db)) (hs : swapsWith e (some (.Subscript a b p2)) pos.line X.env = pure false := by rfl) : PS X (.Assign [.Subscript a b p2] e pos) (upS C W (sDPutD dc da db)) := ps_imp (ps_dput (by omega) ha hb hz hs) fun De σ H h => by
  obtain ⟨th, F, g, M, N, a, kk, h⟩ := h
  refine (kk.pk (rel := rD C) a fun z M1 v t1 F1 H1 q1 a1 l1 r1 => ?_).mk_up h
  refine ((kk.mono l1).pk (rel := rD C) a1 fun x M2 w t2 F2 H2 q2 a2 l2 r2 => ?_).mk_up q1
  refine ((kk.mono (l1.tr l2)).pk (rel := rD C) a2 fun y M3 u t3 F3 H3 q3 a3 l3 r3 => ?_).mk_up q2
  obtain ⟨j, t, kvs, k, n, rfl, e, rfl, o, rfl, hl, q⟩ := q3
  cases r1
  cases r2 with
  | @ptr ad _ et =>
    have et3 := l3.pre _ _ et
    obtain ⟨nF, hd⟩ := dic_at a3.hs et3 e
    exact ⟨ad, _, rfl, dput_of a3.hs.ex hd r3 o hl n, kk.nx g _ σ t3 F3 _ q ⟨a3.hs.put et3 nF ⟨nF, upd_same⟩, a3.sl⟩ ((l1.tr l2).tr l3)⟩
theorem b_listC (hc : X.calm = true) (hm : X.mg "list" = none) (ha : PA X [a] (upA C W ea)) (hg : Gl X "list" := by rfl) (he : starEach [a] X.env = (false, eval a X.env) :: starEach [] X.env := by rfl) : PE X (.Call (.Name "list" p) [a] [] pos) (upE C W (dCB rdListC ea)) :=
  de_ct (CallR.or (call_listD hc) (call_list_dT hc)) lk_listC hm (by decide +kernel) ha hg (by decide) (by decide) he
theorem b_sortX (hm : X.mg "sorted" = none) (ha : PA X [a] (upA C W ea)) (hK : X.K = C.K := by rfl) (hg : Gl X "sorted" := by rfl) (he : starEach [a] X.env = (false, eval a X.env) :: starEach [] X.env := by rfl) : PE X (.Call (.Name "sorted" p) [a] [] pos) (upE C W (dCB rdSortX ea)) :=
  de_cb (hK ▸ cr_sortX) lk_sortX hm (by decide +kernel) ha hg (by decide) (by decide) he
end
end PD

/-! PDzd: set(list) by steps that the user names; sets of many tuples of which few differ. -/
namespace PD
open PySem PySem.Spec PyProof.Rows L2 TS
/-- what stood in g stands in h -/
def Stays (g h : Heap) : Prop := ∀ (b : Addr) (o : Obj), g.get? b = some o → h.get? b = some o
/-- the set that set() makes -/
abbrev bareSet (w : World) : Obj := { cls := .type "set", dict := none, data := .set #[] 0 (.fresh 0 0 (!w.params.followText "set-order")) }
section
variable {P : Program} {w : World} {A : Around}
/-- one item more -/
def AddStep (P : Program) (w : World) (S : Addr) (St : Nat → Heap → Prop) (g : Heap) (i : Nat) (v : Value) : Prop :=
  ∀ (A : Around) (E : Value → Shared → Prop) (s : Shared) (Q : Bool → Shared → Prop), A.units < cLine → Stays g s.heap → St i s.heap →
    (∀ b h tk, s.toks ≤ tk → Heap.SameBut S s.heap h → St (i + 1) h → Q b { s with heap := h, toks := tk }) → wpAny (model P w) A (setAdd S v) Q E s
theorem add_each {I S : Addr} {fp wr : List Addr} {GG : Array GenState → Array GenState → Prop} {n : Nat} {Iv : Nat → Value → Prop} {Wk : Nat → Shared → Prop} {St : Nat → Heap → Prop} {g : Heap} {R : Result → Shared → Prop}
    (walk : WalksS P w A.in1 I fp wr GG n Iv Wk) (off : S ∉ fp) (gS : g.get? S = none) (gw : ∀ b ∈ wr, g.get? b = none) (room : A.in1.units < cLine)
    (keep : ∀ i h h', St i h → Stays g h' → (∀ o, h.get? S = some o → h'.get? S = some o) → St i h') (step : ∀ i v, Iv i v → AddStep P w S St g i v) :
    ∀ (m i : Nat) (s : Shared), i + m = n → Wk i s → Stays g s.heap → St i s.heap → (∀ s', Moved (S :: wr) GG s s' → St n s'.heap → Stays g s'.heap → R (.ok (.ret .none)) s') →
      codeAny (model P w) A (.builtin "set.update.loop" ⟨[.ref S, .ref I], []⟩) R s := by
  have offw : S ∉ wr := fun z => off (walk.sub S z)
  have more : ∀ b ∈ wr, b ∈ S :: wr := fun b z => .tail _ z
  have stay : ∀ {s s' : Shared}, Moved wr GG s s' → Stays g s.heap → Stays g s'.heap := fun mv k b o e => mv.heap b o (fun z => nomatch (gw b z).symm.trans e) (k b o e)
  intro m
  induction m with
  | zero =>
    intro i s hi wk k st q
    obtain rfl : i = n := hi
    apply codeAny_builtin F.entry_set_update_loop
    rw [Around.under_plainId F.plain_set_update_loop]
    apply wpAny_bind
    apply walk.done s _ _ wk
    intro s' mv
    exact wpAny_pure (q s' (mv.mono more) (keep i _ _ st (stay mv k) fun o => mv.heap S o offw) (stay mv k))
  | succ m more_of =>
    intro i s hi wk k st q
    apply codeAny_builtin F.entry_set_update_loop
    rw [Around.under_plainId F.plain_set_update_loop]
    apply wpAny_bind
    apply walk.item i s _ _ (by omega) wk
    intro v s' iv wk' mv
    have k' := stay mv k
    apply wpAny_bind
    apply wpAny_holding
    refine step i v iv A.in1 _ s' _ room k' (keep i _ _ st k' fun o => mv.heap S o offw) fun b h tk le same st2 => ?_
    have k2 : Stays g h := fun c o e => (same.2 c fun z => nomatch (z ▸ gS).symm.trans e).trans (k' c o e)
    have wk2 := walk.frame (i + 1) s' h tk wk' le fun c z o e => (same.2 c fun y => off (y ▸ z)).trans e
    refine wpAny_pure ⟨plainId_quiet F.plain_set_update_loop _, more_of (i + 1) _ (by omega) wk2 k2 st2 fun s2 mv2 st3 k3 => q s2 ?_ st3 k3⟩
    exact Moved.trans walk.gtrans ((mv.mono more).then_heap le fun c o z e => (same.2 c fun y => z (y ▸ .head _)).trans e) mv2
/-- set.__init__ of the bare set at S, from the list at l -/
theorem init_each {l : Addr} {items : Array Value} {s : Shared} {St : Nat → Heap → Prop} {E : Value → Shared → Prop} {Q : PySem.Fin → Shared → Prop} (calm : A.handled = none) (hl : s.heap.IsList l items) (room : A.in1.units < cLine)
    (s1 : Shared) (es : s1 = { s with heap := s.heap.push (bareSet w) })
    (keep : ∀ i h h', St i h → Stays s.heap h' → (∀ o, h.get? s.heap.objs.size = some o → h'.get? s.heap.objs.size = some o) → St i h') (step : ∀ i v, items[i]? = some v → AddStep P w s.heap.objs.size St s.heap i v)
    (st0 : ∀ h, h.get? s.heap.objs.size = some (bareSet w) → Stays s.heap h → St 0 h)
    (q : ∀ h tk, Stays s.heap h → St items.size h → Q (.done (.ret .none)) { s with heap := h, toks := tk }) :
    wpAny (model P w) A (Builtin.«set.__init__» ⟨[.ref s.heap.objs.size, .ref l], []⟩) Q E s1 := by
  obtain ⟨⟨oc, od, odt, osl⟩, gl, tl, cap, dl⟩ := hl
  dsimp only at tl dl
  cases tl; cases dl
  have above : ∀ b, s.heap.objs.size ≤ b → s.heap.get? b = none := fun b hb => Option.eq_none_iff_forall_ne_some.mpr fun o e => absurd (Nat.lt_of_lt_of_le (Heap.lt_size e) hb) (Nat.lt_irrefl _)
  have lS : l < s.heap.objs.size := Heap.lt_size gl
  have z1 : (s.heap.push (bareSet w)).objs.size = s.heap.objs.size + 1 := Heap.size_push _ _
  have gl1 : s1.heap.get? l = some ⟨.type "list", od, .seq items cap, osl⟩ := by rw [es]; exact Heap.get?_push_of_some _ gl
  have list1 : s1.heap.IsList l items := ⟨_, gl1, rfl, cap, rfl⟩
  have fact1 := F.sub_list_set
  have fact2 := F.sub_list_frozenset
  have fact3 : (Value.type "list" == Value.type "dict") = false := by decide
  subst es
  unfold Builtin.«set.__init__» noKeywords Builtin.Frozenset.updateFrom
  generalize later : pyIter = walker
  wp_walk
  subst later
  have iterNew : l ≠ (s.heap.push (bareSet w)).objs.size := fun e => absurd lS (by rw [e, z1]; exact Nat.not_lt.mpr (Nat.le_succ _))
  have calm1 : A.in1.handled = none := by simp [calm]
  apply wpAny_pyIter_list list1
  apply wpAny_bind
  apply wpAny_runValue
  have started : Stays s.heap ((s.heap.push (bareSet w)).push { cls := .type "list_iterator", data := .fields #[.ref l, .int 0 0] }) := fun b o e => Heap.get?_push_of_some _ (Heap.get?_push_of_some _ e)
  refine add_each (g := s.heap) (Walks.list calm1 _ l iterNew items).toS (fun z => ?_) (above _ (Nat.le_refl _)) (fun b z => ?_) room keep step items.size 0 _ (Nat.zero_add _) ⟨⟨_, Heap.get?_push_size _ rfl, rfl, rfl⟩, list1.push _⟩ started (st0 _ (Heap.get?_push_of_some _ (Heap.get?_push_size _ rfl)) started) fun s2 mv st2 k2 => ?_
  · rw [z1] at z
    rcases List.mem_cons.mp z with e | e
    · exact absurd e (Nat.ne_of_lt (Nat.lt_succ_self _))
    · exact absurd (List.mem_singleton.mp e) (Nat.ne_of_gt lS)
  · rw [List.mem_singleton.mp z, z1]
    exact above _ (Nat.le_succ _)
  · have e2 : s2 = { s with heap := s2.heap, toks := s2.toks } := by
      have m1 : s2.gens = s.gens := mv.gens
      have m2 : s2.drawn = s.drawn := mv.drawn
      have m3 : s2.os = s.os := mv.os
      cases s2
      cases m1; cases m2; cases m3
      rfl
    rw [e2]
    exact wpAny_pure (wpAny_pure (q _ _ k2 st2))
/-- set(list), by the steps -/
theorem set_of_list {l : Addr} {items : Array Value} {s : Shared} {St : Nat → Heap → Prop} {E : Value → Shared → Prop} {Q : Value → Shared → Prop} (calm : A.handled = none) (hl : s.heap.IsList l items) (room : A.units + 3 < cLine)
    (keep : ∀ i h h', St i h → Stays s.heap h' → (∀ o, h.get? s.heap.objs.size = some o → h'.get? s.heap.objs.size = some o) → St i h') (step : ∀ i v, items[i]? = some v → AddStep P w s.heap.objs.size St s.heap i v)
    (st0 : ∀ h, h.get? s.heap.objs.size = some (bareSet w) → Stays s.heap h → St 0 h)
    (q : ∀ h tk, Stays s.heap h → St items.size h → Q (.ref s.heap.objs.size) { s with heap := h, toks := tk }) : wpAny (model P w) A (call (.type "set") [.ref l]) Q E s := by
  have atS : (s.heap.push (bareSet w)).get? s.heap.objs.size = some (bareSet w) := Heap.get?_push_size _ rfl
  have f1 := F.called_set.made
  have f2 := F.called_set.sub
  have f3 := F.called_set.notType
  have f4 := F.called_set.canCreate
  have f5 := F.typeCall_set_1 (.ref l)
  have f6 := F.called_set.init.lookup
  have f7 := F.called_set.init.bind (.ref s.heap.objs.size)
  obtain ⟨_, _, f0⟩ := F.called_set.mro
  apply wpAny_call
  apply codeAny_of_tree
  show wpAny _ _ (callAny (.type "set") ⟨[.ref l], []⟩) _ _ _
  refine wpAny_pure (And.intro (Code.quiet_builtin _ (by decide +kernel)) (codeAny_builtin F.entry_type_call ?_))
  rw [Around.under_plain (weight_type_call_type "set" [.ref l] []) rfl]
  repeat (any_goals (first | wp_step | assumption))
  refine codeAny_mono (code_set_led1 (.ref l) (E := E) (Q₁ := fun v s1 => v = .ref s.heap.objs.size ∧ s1 = { s with heap := s.heap.push (bareSet w) }) ⟨rfl, rfl⟩) fun r s1 hr => ?_
  match r, hr with
  | .error e, hr => exact hr
  | .ok (.ret v), hr =>
    obtain ⟨rfl, hs1⟩ := hr
    have typ : s1.TypeIs (.ref s.heap.objs.size) "set" := by rw [hs1]; exact ⟨_, atS, rfl⟩
    repeat (any_goals (first | wp_step | assumption))
    have run := codeAny_call_builtin (prog := P) (w := w) (A := A.in1) (s := s1) (R := wants (fun r s2 => r = .none ∧ ∃ h tk, s2 = { s with heap := h, toks := tk } ∧ Stays s.heap h ∧ St items.size h) E) F.called_set.init.plain F.entry_set_init
      (check_set_init_1 typ (init_each (by simp [calm]) hl room s1 hs1 keep step st0 fun h tk a b => ⟨rfl, h, tk, rfl, a, b⟩))
    refine codeAny_mono run fun r s2 hr2 => ?_
    match r, hr2 with
    | .error e, hr2 => exact hr2
    | .ok (.ret v), hr2 =>
      obtain ⟨rfl, h, tk, rfl, k2, st2⟩ := hr2
      repeat (any_goals (first | wp_step | assumption))
      exact q h tk k2 st2
    | .ok .next, hr2 => exact False.elim hr2
    | .ok .brk, hr2 => exact False.elim hr2
    | .ok .cont, hr2 => exact False.elim hr2
  | .ok .next, hr => exact False.elim hr
  | .ok .brk, hr => exact False.elim hr
  | .ok .cont, hr => exact False.elim hr
end
theorem few_of_nodup : ∀ {l D : List (List Int)}, l.Nodup → (∀ x ∈ l, x ∈ D) → l.length ≤ D.length
  | [], _, _, _ => Nat.zero_le _
  | a :: l, D, nd, sub => by
    have na := (List.nodup_cons.mp nd)
    have inD := sub a (.head _)
    have rest := few_of_nodup (D := D.erase a) na.2 fun x hx => (List.mem_erase_of_ne fun (e : x = a) => na.1 (e ▸ hx)).mpr (sub x (.tail _ hx))
    have pos := List.length_pos_of_mem inD
    rw [List.length_erase_of_mem inD] at rest
    rw [List.length_cons]
    omega
/-- set(xs), xs a list of tuples of ints, few of them different -/
def rSetTM (K : PySem.W.Frag) (P : Program) (w : World) : List V → Hp → VK → Prop := fun xs H Q => ∃ (l : Addr) (ks : List (Addr × List Int)) (D : List (List Int)), xs = [V.ref l] ∧ SqL K H l (ks.map fun p => V.ref p.1) ∧
  (∀ p ∈ ks, SqT K H p.1 (p.2.map V.int)) ∧ (∀ p ∈ ks, p.2 ∈ D) ∧ D.length < 63 ∧ ∀ a L, H a = none → (∀ p ∈ L, p ∈ ks) → (∀ p ∈ ks, p.2 ∈ L.map (·.2)) → Q (.ref a) (upd H a (SetTO P w a L))
section
variable {X : Cx}
theorem cr_setTM (hc : X.calm = true) (hu : X.A.units + 64 < cLine) : CallR X (.type "set") (rSetTM X.K X.prog X.w) := by
  intro pins s σ H xs us Q I r h
  obtain ⟨l, ks, D, rfl, hl, hk, hD, few, q⟩ := h
  cases Vals.ref1 r
  obtain ⟨its, rv, pl, _⟩ := I.list hl
  have eits : its = ks.map fun p => Value.ref p.1 := refs_of_vals rv
  have tup : ∀ p ∈ ks, IsT X.prog X.w s.heap p.2 p.1 := fun p hp => I.isT (hk p hp)
  have fresh : H s.heap.objs.size = none := I.hok.fresh (Nat.le_refl _)
  refine set_of_list (St := fun i h => ∃ L es ep t, SetTR X.prog X.w h s.heap.objs.size L es ep t ∧ Got ks i L) (I.ok.hd hc) pl.isList (by omega) (fun i h h' st old same => ?_) (fun i v ev => ?_) (fun h e old => ⟨[], #[], 0, _, setTR_fresh e, Got.zero ks⟩) fun h tk old st => ?_
  · obtain ⟨L, es, ep, t, R, g⟩ := st
    exact ⟨L, es, ep, t, R.keep same fun p hp => isT_keep (tup p (List.mem_of_mem_take (g.sub p hp))) old, g⟩
  · have ev2 : its[i]? = some v := by simpa using ev
    rw [eits, List.getElem?_map] at ev2
    obtain ⟨p, ep, rfl⟩ := Option.map_eq_some_iff.mp ev2
    intro A E s2 Q2 room old st q2
    obtain ⟨L, es, ep2, t, R, g⟩ := st
    have pk := List.mem_of_getElem? ep
    have here : IsT X.prog X.w s2.heap p.2 p.1 := isT_keep (tup p pk) old
    have lenL : L.length ≤ D.length := by
      have := few_of_nodup R.nd fun u hu => by
        obtain ⟨z, hz, rfl⟩ := List.mem_map.mp hu
        exact hD z (List.mem_of_mem_take (g.sub z hz))
      rwa [List.length_map] at this
    unfold setAdd
    apply wpAny_holding
    apply wpAny_bind
    apply wpAny_pyHash_tuple room here
    refine add_at (s := { s2 with toks := s2.toks + (p.2.length + 1) }) R here room (by omega) fun b h L' es' ep' t' sb R' c1 c2 => q2 b h _ (Nat.le_add_right _ _) sb ⟨L', es', ep', t', R', ?_⟩
    by_cases c : p.2 ∈ L.map (·.2)
    · rw [c1 c]
      exact g.same ep c
    · exact g.more ep (c2 c)
  · obtain ⟨L, es, ep, t, R, g⟩ := st
    have full : its.toArray.size = ks.length := by rw [List.size_toArray, eits, List.length_map]
    rw [full] at g
    have all : ks.take ks.length = ks := List.take_length
    exact ⟨.ref s.heap.objs.size, _, I.laid (t' := tk) old (Nat.le_refl _) (setTO_new R.t0), rfl, q _ L fresh (fun p hp => List.mem_of_mem_take (g.sub p hp)) fun p hp => g.all p (by rw [all]; exact hp)⟩
theorem setR_few {w : World} {h : Heap} {a : Addr} {S : Int → Bool} {n : Nat} {D : List Int} (R : SetR w h a S n) (sub : ∀ k, S k = true → k ∈ D) : n ≤ D.length := by
  obtain ⟨o, es, ep, t, _, _, _, _, nd, mem, _, _, len, _⟩ := R
  have := few_of_nodup (l := (es.toList.map keyOf).map fun i => [i]) (D := D.map fun i => [i]) (List.Pairwise.map (fun i : Int => [i]) (fun x y ne e => ne (by injection e)) nd) fun x hx => by
    obtain ⟨k, hk, rfl⟩ := List.mem_map.mp hx
    exact List.mem_map.mpr ⟨k, sub k ((mem k).mpr hk), rfl⟩
  rw [List.length_map, List.length_map, List.length_map, Array.length_toList] at this
  omega
/-- set(ns), ns a list of ints, few of them different -/
def rSetIM (K : PySem.W.Frag) (w : World) : List V → Hp → VK → Prop := fun xs H Q => ∃ (l : Addr) (ns D : List Int), xs = [V.ref l] ∧ SqL K H l (ns.map V.int) ∧ (∀ k ∈ ns, k ∈ D) ∧ D.length < 63 ∧
  ∀ a S n, H a = none → n < 63 → (∀ k, S k = true ↔ k ∈ ns) → Q (.ref a) (upd H a (SetO w a S n))
theorem cr_setIM (hc : X.calm = true) (hu : X.A.units + 64 < cLine) : CallR X (.type "set") (rSetIM X.K X.w) := by
  intro pins s σ H xs us Q I r h
  obtain ⟨l, ns, D, rfl, hl, hD, few, q⟩ := h
  cases Vals.ref1 r
  obtain ⟨its, rv, pl, _⟩ := I.list hl
  have full : its.length = ns.length := by rw [← rv.length, List.length_map]
  have fresh : H s.heap.objs.size = none := I.hok.fresh (Nat.le_refl _)
  refine set_of_list (St := fun i h => ∃ c, SetR X.w h s.heap.objs.size (fun j => decide (j ∈ ns.take i)) c) (I.ok.hd hc) pl.isList (by omega) (fun i h h' ⟨c, R⟩ old same => ⟨c, R.at same⟩) (fun i v ev => ?_) (fun h e old => ⟨0, setR_new_at e⟩) fun h tk old st => ?_
  · have ev2 : its[i]? = some v := by simpa using ev
    have li := (List.getElem?_eq_some_iff.mp ev2).1
    have ez : ns[i]? = some (ns[i]'(by omega)) := List.getElem?_eq_getElem _
    generalize ns[i]'(by omega) = z at ez
    obtain ⟨u, eu, ru⟩ := rv.get (i := i) (x := V.int z) (by rw [List.getElem?_map, ez]; rfl)
    rw [ev2] at eu
    cases eu
    obtain ⟨tz, rfl⟩ := ru
    intro A E s2 Q2 room old ⟨c, R⟩ q2
    have lc := setR_few R (D := D) fun k hk => hD k (List.mem_of_mem_take (of_decide_eq_true hk))
    unfold setAdd
    apply wpAny_holding
    apply wpAny_bind
    apply (intKind X.prog X.w).pyHash (k := z) (intKind_is _ _ _ _)
    refine setR_add_hashed (s := { s2 with toks := s2.toks + 1 }) R (by unfold scanBound; omega) fun h sb R' => q2 _ h _ (Nat.le_succ _) sb ⟨_, R'.congr fun j => ?_⟩
    rw [List.take_add_one, ez]
    simp
  · obtain ⟨c, R⟩ := st
    rw [show ns.take its.toArray.size = ns from List.take_of_length_le (by rw [List.size_toArray]; omega)] at R
    have lc := setR_few R (D := D) fun k hk => hD k (of_decide_eq_true hk)
    exact ⟨.ref s.heap.objs.size, _, I.laid (t' := tk) old (Nat.le_refl _) (setO_new R), rfl, q _ _ c fresh (by omega) fun k => by simp⟩
/-- sorted(set(xs)) -/
def rSS (K : PySem.W.Frag) (P : Program) (w : World) : List V → Hp → VK → Prop := fun vs H Q => (rSetTM K P w vs H fun x H1 => rSortedT K P w [x] H1 Q ∨ rSortedSet w [x] H1 Q) ∨ rSetIM K w vs H fun x H1 => rSortedT K P w [x] H1 Q ∨ rSortedSet w [x] H1 Q
theorem pe_ss {a : Expr} {t : TA} {p p2 q pos : Pos} (hc : X.calm = true) (hu : X.A.units + 64 < cLine) (hm : X.mg "sorted" = none) (hm2 : X.mg "set" = none) (ha : PA X [a] t) (hg : Gl X "sorted" := by rfl) (hg2 : Gl X "set" := by rfl)
    (he : starEach [a] X.env = (false, eval a X.env) :: starEach [] X.env := by rfl) : PE X (.Call (.Name "sorted" p) [.Call (.Name "set" p2) [a] [] q] [] pos) (tCB (rSS X.K X.prog X.w) t) := by
  have inner : PE X (.Call (.Name "set" p2) [a] [] q) _ := pe_callTy (CallR.or (cr_setTM hc hu) (cr_setIM hc hu)) hg2 hm2 (by decide +kernel) ha (by decide) (by decide) he rfl
  have outer : PE X (.Call (.Name "sorted" p) [.Call (.Name "set" p2) [a] [] q] [] pos) _ := pe_callB (CallR.or (cr_sortedT hc) (cr_sortedSet hc)) hg hm (by decide +kernel) (pa_cons inner pa_nil) (by decide) (by decide) rfl rfl
  exact pe_imp outer fun σ H Q h => h
end
/-! ### the readings -/
abbrev rdSS : RA := fun xs M k => ∃ (x : D) (t : Bool) (ks Dl : List (List Int)) (d : Nat) (B : Int), xs = [x] ∧ lstOf x M = some (ks.map (kD t)) ∧ (t = false → d = 1) ∧ 1 ≤ d ∧ (∀ u ∈ ks, u.length = d ∧ TS.Bd B u) ∧ (∀ u ∈ ks, u ∈ Dl) ∧ Dl.length < 63 ∧
  ∀ us : List (List Int), us.Nodup → (∀ u, u ∈ us ↔ u ∈ ks) → us.Pairwise (fun u v => TS.code B u ≤ TS.code B v) → k (.lst (us.map (kD t)))
section
variable {C : Cn} {P : Program} {w : World}
theorem tups_of {th : List Addr} {F : Hp} : ∀ {ks : List (List Int)} {ws : List V}, RepL C th F ws (ks.map (kD true)) → ∃ ps : List (Addr × List Int), ws = ps.map (fun p => V.ref p.1) ∧ ps.map (·.2) = ks ∧ ∀ p ∈ ps, F p.1 = some (.tup (p.2.map V.int))
  | [], _, .nil => ⟨[], rfl, rfl, fun p hp => nomatch hp⟩
  | u :: ks, _, .cons r0 rr => by
    obtain ⟨ps, rfl, e2, e3⟩ := tups_of rr
    cases r0 with
    | @tup b vs _ hf rs =>
      cases rs.ofI
      refine ⟨(b, u) :: ps, rfl, by rw [List.map_cons, e2], fun p hp => ?_⟩
      rcases List.mem_cons.mp hp with rfl | hp
      · exact hf
      · exact e3 p hp
theorem tups_to {th : List Addr} {F : Hp} : ∀ {ps : List (Addr × List Int)}, (∀ p ∈ ps, F p.1 = some (.tup (p.2.map V.int))) → RepL C th F (ps.map fun p => V.ref p.1) ((ps.map (·.2)).map (kD true))
  | [], _ => .nil
  | p :: ps, h => .cons (.tup (h p (.head _)) (RepL.iL _)) (tups_to fun q hq => h q (.tail _ hq))
theorem lk_ss : LkA C (rSS C.K P w) rdSS := by
  rintro xs M k vs th F H Q hs rx ⟨x, t, ks, Dl, d, B, rfl, e, h1, hd, hB, hD, few, q⟩ kk
  obtain ⟨v, rfl, r⟩ := rx.one'
  obtain ⟨a, ws, rfl, h2, r1⟩ := lst_at hs r e
  cases t with
  | true =>
    obtain ⟨ps, rfl, rfl, hF⟩ := tups_of r1
    refine .inl ⟨a, ps, Dl, rfl, SqL.of h2, fun p hp => SqT.of (hs.ex _ _ (hF p hp)), fun p hp => hD _ (List.mem_map.mpr ⟨p, hp, rfl⟩), few, fun S L hS sub all => .inl ?_⟩
    have hs1 := hs.new (o := SetTO P w S L) hS
    have l1 : Le th F th (upd F S (SetTO P w S L)) := Le.nw (hs.ex.fr hS)
    refine ⟨S, L, d, B, rfl, upd_same, fun p hp => SqT.of (hs1.ex _ _ (l1.ex _ _ (hF p (sub p hp)))), hd, fun p hp => hB _ (List.mem_map.mpr ⟨p, sub p hp, rfl⟩), fun L' p pm nd _ pw hp => ?_⟩
    have l2 : Le th _ th (upd _ p (.lst (L'.map fun q => V.ref q.1))) := Le.nw (hs1.ex.fr hp)
    refine kk _ _ _ _ (q (L'.map (·.2)) nd (fun u => ?_) ?_) (hs1.new hp) (l1.tr l2) (.lst upd_same ((tups_to fun p hp => hF p (sub p (pm.mem_iff.mp hp))).mono (l1.tr l2)))
    · rw [(pm.map (·.2)).mem_iff]
      constructor
      · intro hu
        obtain ⟨p, hp, rfl⟩ := List.mem_map.mp hu
        exact List.mem_map.mpr ⟨p, sub p hp, rfl⟩
      · intro hu
        obtain ⟨p, hp, rfl⟩ := List.mem_map.mp hu
        exact all p hp
    · rw [List.pairwise_map]
      exact pw
  | false =>
    have d1 := h1 rfl
    have e3 : ks.map (kD false) = iL (ks.map fun u => u.headD 0) := by unfold iL; rw [List.map_map]; rfl
    rw [e3] at r1
    cases r1.ofI
    have one : ∀ u ∈ ks, [u.headD 0] = u := fun u hu => by
      obtain ⟨i, rfl⟩ := List.length_eq_one_iff.mp ((hB u hu).1.trans d1)
      rfl
    refine .inr ⟨a, _, Dl.map fun u => u.headD 0, rfl, SqL.of h2, fun i hi => ?_, by rw [List.length_map]; exact few, fun S ins n hS n63 mem => .inr ?_⟩
    · obtain ⟨u, hu, rfl⟩ := List.mem_map.mp hi
      exact List.mem_map.mpr ⟨u, hD u hu, rfl⟩
    have hs1 := hs.new (o := SetO w S ins n) hS
    have l1 : Le th F th (upd F S (SetO w S ins n)) := Le.nw (hs.ex.fr hS)
    refine ⟨S, ins, n, rfl, upd_same, by omega, fun ns p pw mem2 _ hp => ?_⟩
    have l2 : Le th _ th (upd _ p (.lst (ns.map V.int))) := Le.nw (hs1.ex.fr hp)
    have e4 : (ns.map fun i => [i]).map (kD false) = iL ns := by unfold iL; rw [List.map_map]; rfl
    refine kk _ _ _ _ (q (ns.map fun i => [i]) (List.Pairwise.map (fun i : Int => [i]) (fun x y lt e => absurd lt (by injection e with e; omega)) pw) (fun u => ?_) ?_) (hs1.new hp) (l1.tr l2) (.lst upd_same (by rw [e4]; exact RepL.iL _))
    · constructor
      · intro hu
        obtain ⟨i, hi, rfl⟩ := List.mem_map.mp hu
        obtain ⟨u2, hu2, rfl⟩ := List.mem_map.mp ((mem i).mp ((mem2 i).mp hi))
        rw [one u2 hu2]
        exact hu2
      · intro hu
        exact List.mem_map.mpr ⟨u.headD 0, (mem2 _).mpr ((mem _).mpr (List.mem_map.mpr ⟨u, hu, rfl⟩)), one u hu⟩
    · rw [List.pairwise_map]
      refine pw.imp fun {x y} h => ?_
      rw [code_one, code_one]
      exact Int.le_of_lt h
end
section
variable {X : Cx} {C : Cn} {W : WX} {a b : Expr} {da db : DE} {ea : DA} {pos p p2 q : Pos}
theorem b_ss (hc : X.calm = true) (hu : X.A.units + 64 < cLine) (hm : X.mg "sorted" = none) (hm2 : X.mg "set" = none) (ha : PA X [a] (upA C W ea)) (hK : X.K = C.K := by rfl) (hg : Gl X "sorted" := by rfl) (hg2 : Gl X "set" := by rfl)
    (he : starEach [a] X.env = (false, eval a X.env) :: starEach [] X.env := by rfl) : PE X (.Call (.Name "sorted" p) [.Call (.Name "set" p2) [a] [] q] [] pos) (upE C W (dCB rdSS ea)) :=
  pe_imp (pe_ss hc hu hm hm2 ha hg hg2 he) (cb_up (hK ▸ lk_ss))
end
theorem room65 {k : Nat} {A : Around} (r : Room k A) : A.units + 65 < cLine := by have := r.un; omega
/-- things.count(thing), over data -/
def rCntD (K : PySem.W.Frag) : V → List V → Hp → VK → Prop := fun x xs H Q => ∃ (a : Addr) (y : V) (d : PyData) (ds : List PyData), x = V.ref a ∧ xs = [y] ∧ Dp K H (V.ref a) (.list ds) ∧ Dp K H y d ∧ SeqAt.shaped (.list ds) = true ∧ SeqAt.shaped d = true ∧ Q (.int ((ds.countP fun z => PyData.eqv z d : Nat) : Int)) H
def dCountX (da db : DE) : DE := fun g M X k => da g M X fun x M1 => ∃ (t : Bool) (ks : List (List Int)), x = .lst (ks.map (kD t)) ∧ db g M1 X fun y M2 => ∃ u, y = kD t u ∧ k (.int (((ks.countP fun z => eqD (kD t z) (kD t u)) : Nat) : Int)) M2
/-- xs.index(n), ints, n among them -/
def dIndexI (da db : DE) : DE := fun g M X k => da g M X fun x M1 => ∃ l : List Int, x = .lst (iL l) ∧ db g M1 X fun y M2 => ∃ (n : Int) (j : Nat), y = .int n ∧ l[j]? = some n ∧ (∀ (m : Nat) (z : Int), m < j → l[m]? = some z → z ≠ n) ∧ k (.int (j : Int)) M2
section
variable {X : Cx} {C : Cn} {W : WX} {a b : Expr} {da db : DE}
theorem mt_cntD (hu : X.A.units + 65 < cLine) : MtR X "list.count" (rCntD X.K) := by
  intro pins s σ H x xs v us Q I rx rxs h
  obtain ⟨a, y, d, ds, rfl, rfl, hl, hy, sl, sd, q⟩ := h
  cases rx
  obtain ⟨u, rfl, ry⟩ := rxs.one
  obtain ⟨bs, r1⟩ := Dp.reads I d y u hy ry
  cases hl with
  | lst hs ha =>
    obtain ⟨its, rv, pl, _⟩ := I.list hs
    obtain ⟨as, r2⟩ := Dp.readsAll I ds _ its ha rv
    have lay : PyData.canLayAll0 ds = true := SeqAt.canLay_of_shaped sl
    refine SeqAt.count_list_data pl.isList (show PySem.ReadsAll s.heap its.toArray.toList ds as from r2) r1 (PyData.plainAll_of_canLay0 ds lay) (PyData.plain_of_canLay0 d (SeqAt.canLay_of_shaped sd)) (room_in_shaped sd hu) ?_
    exact ⟨.int ((ds.countP fun z => PyData.eqv z d : Nat) : Int), H, I.tok _, ⟨s.toks, rfl⟩, q⟩
theorem pl_kD (t : Bool) (u : List Int) : Pl 1 (kD t u) := by
  cases t with
  | true =>
    refine .tup 0 _ fun x hx => ?_
    obtain ⟨i, _, rfl⟩ := List.mem_map.mp hx
    exact .int 0 i
  | false => exact .int 1 _
theorem pys_map (f : List Int → D) : ∀ ks : List (List Int), D.pys (ks.map f) = ks.map fun u => (f u).py
  | [] => rfl
  | u :: ks => by
    rw [List.map_cons, List.map_cons, ← pys_map f ks]
    rfl
theorem de_countX {apos cpos : Pos} (ha : PE X a (upE C W da)) (hb : PE X b (upE C W db)) (hx : PE X (.Call (.Attribute a "count" apos) [b] [] cpos) (tBM X.K "list" (rCntD X.K) (upE C W da) (tCons (upE C W db) tNil))) (hK : X.K = C.K := by rfl) :
    PE X (.Call (.Attribute a "count" apos) [b] [] cpos) (upE C W (dCountX da db)) := pe_imp hx fun σ H Q h => by
  obtain ⟨th, F, g, M, X', P, p, h⟩ := h
  refine p.bind h fun x v t1 F1 H1 M1 h1 rx l1 p1 => ?_
  obtain ⟨t, ks, rfl, h1⟩ := h1
  have plL : Pl 2 (.lst (ks.map (kD t))) := .lst 1 _ fun x hx => by
    obtain ⟨u, _, rfl⟩ := List.mem_map.mp hx
    exact pl_kD t u
  cases rx with
  | @lst ad vs _ hf rs =>
    refine ⟨.inl ⟨rfl, _, SqL.of (p1.at_.hs.ex _ _ hf)⟩, p1.bind h1 fun y w t2 F2 H2 M2 h2 ry l2 p2 => ?_⟩
    obtain ⟨u, rfl, q⟩ := h2
    refine ⟨ad, w, (kD t u).py, D.pys (ks.map (kD t)), rfl, rfl, hK ▸ Rep.dp (th := t2) p2.at_.hs.ex plL _ (.lst (l2.ex _ _ hf) (rs.mono l2)), hK ▸ Rep.dp p2.at_.hs.ex (pl_kD t u) _ ry, plL.shaped, (pl_kD t u).shaped, ?_⟩
    have e : (D.pys (ks.map (kD t))).countP (fun z => PyData.eqv z (kD t u).py) = ks.countP fun z => eqD (kD t z) (kD t u) := by
      rw [pys_map, List.countP_map]
      rfl
    rw [e]
    exact p2.fin q (.int _)
theorem eqV_int (i j : Int) : eqV (.int i) (.int j) = decide (i = j) := by
  show (i == j) = _
  by_cases h : i = j
  · rw [decide_eq_true h]; exact beq_iff_eq.mpr h
  · rw [decide_eq_false h]; exact beq_eq_false_iff_ne.mpr h
theorem de_indexI {apos cpos : Pos} (ha : PE X a (upE C W da)) (hb : PE X b (upE C W db)) (hx : PE X (.Call (.Attribute a "index" apos) [b] [] cpos) (tBM X.K "list" (rIndex X.K) (upE C W da) (tCons (upE C W db) tNil))) :
    PE X (.Call (.Attribute a "index" apos) [b] [] cpos) (upE C W (dIndexI da db)) := pe_imp hx fun σ H Q h => by
  obtain ⟨th, F, g, M, X', P, p, h⟩ := h
  refine p.bind h fun x v t1 F1 H1 M1 h1 rx l1 p1 => ?_
  obtain ⟨l, rfl, h1⟩ := h1
  cases rx with
  | @lst ad vs _ hf rs =>
    cases rs.ofI
    refine ⟨.inl ⟨rfl, _, SqL.of (p1.at_.hs.ex _ _ hf)⟩, p1.bind h1 fun y w t2 F2 H2 M2 h2 ry l2 p2 => ?_⟩
    obtain ⟨n, j, rfl, ej, no, q⟩ := h2
    cases ry
    refine ⟨ad, l.map V.int, .int n, j, .int n, rfl, rfl, SqL.of (p2.at_.hs.ex _ _ (l2.ex _ _ hf)), rfl, ?_, by rw [List.getElem?_map, ej]; rfl, by rw [eqV_int]; exact decide_eq_true rfl, fun m z hm ez => ?_, p2.fin q (.int _)⟩
    · rw [List.all_eq_true]
      intro z hz
      obtain ⟨i, _, rfl⟩ := List.mem_map.mp hz
      rfl
    · rw [List.getElem?_map] at ez
      obtain ⟨i, ei, rfl⟩ := Option.map_eq_some_iff.mp ez
      rw [eqV_int]
      exact decide_eq_false (no m i hm ei)
end
end PD

/-! SwA: the source of numbers, is_integer, is_from, Game: over data. -/
namespace Sw
open PySem PySem.Spec PyProof.Rows L2 PD
/-- what a comprehension does behind its list -/
def LcB (g : En) (vs : List Nat) (dg : D → En → (En → Prop) → Prop) (dt : DT) (de : DE) (X : EK) (k : D → MS → Prop) (ys : List D) (M' : MS) : Prop := (∀ c ∈ M', ClnC c) ∧ ys.length < sizeLine ∧ ∃ Inv : Nat → List D → Prop, Inv 0 [] ∧
  (∀ (i : Nat) (y : D) (acc : List D), ys[i]? = some y → Inv i acc → dg y (wipeD g vs) fun g2 => dt g2 (M' ++ [.lst acc]) X0 fun b M2 => M2 = M' ++ [.lst acc] ∧
    if b = true then de g2 (M' ++ [.lst acc]) X0 fun z M3 => M3 = M' ++ [.lst acc] ∧ Cln z ∧ Inv (i + 1) (acc ++ [z]) else Inv (i + 1) acc) ∧
  ∀ acc, Inv ys.length acc → k (.lst acc) M'
theorem dLc_eq (di : DIt) (dg : D → En → (En → Prop) → Prop) (dt : DT) (de : DE) (vs : List Nat) (g : En) (M : MS) (X : EK) (k : D → MS → Prop) : dLc di dg dt de vs g M X k = di g M X fun ys M' => LcB g vs dg dt de X k ys M' := rfl
def ForB (g : En) (dg : D → En → (En → Prop) → Prop) (b : DS) (N : DN) (ys : List D) (M' : MS) : Prop := ∃ Inv : Nat → En → MS → Prop, Inv 0 g M' ∧
  (∀ (i : Nat) (y : D) (g1 : En) (M1 : MS), ys[i]? = some y → Inv i g1 M1 → dg y g1 fun g2 => b g2 M1 { N with nx := Inv (i + 1), ct := Inv (i + 1), bk := N.nx }) ∧ ∀ g1 M1, Inv ys.length g1 M1 → N.nx g1 M1
theorem sFor_eq (di : DIt) (dg : D → En → (En → Prop) → Prop) (b : DS) (g : En) (M : MS) (N : DN) : sFor di dg b g M N = di g M (fun e M' => N.ex e g M') fun ys M' => ForB g dg b N ys M' := rfl
/-- a comprehension without condition whose element is a function of the item -/
theorem lc_map {g : En} {vs : List Nat} {dg : D → En → (En → Prop) → Prop} {de : DE} {X : EK} {k : D → MS → Prop} {ys : List D} {M : MS} (f : D → D) (hM : ∀ c ∈ M, ClnC c) (hl : ys.length < sizeLine) (hf : ∀ y ∈ ys, Cln (f y))
    (he : ∀ y ∈ ys, ∀ (acc : List D), (∀ d ∈ acc, Cln d) → ∀ (P : D → MS → Prop), P (f y) (M ++ [.lst acc]) → dg y (wipeD g vs) fun g2 => de g2 (M ++ [.lst acc]) X0 P) (hk : k (.lst (ys.map f)) M) : LcB g vs dg dYes de X k ys M := by
  refine ⟨hM, hl, fun i acc => acc = (ys.take i).map f, by simp, ?_, ?_⟩
  · rintro i y acc e rfl
    have hy : y ∈ ys := List.mem_of_getElem? e
    have h := he y hy ((ys.take i).map f) (fun d hd => by obtain ⟨y', hy', rfl⟩ := List.mem_map.mp hd; exact hf y' (List.mem_of_mem_take hy')) (fun z M3 => M3 = M ++ [.lst ((ys.take i).map f)] ∧ Cln z ∧ (ys.take i).map f ++ [z] = (ys.take (i + 1)).map f) ⟨rfl, hf y hy, by rw [List.take_add_one, e, List.map_append]; rfl⟩
    unfold dYes
    simpa using h
  · rintro acc rfl
    rw [List.take_length]
    exact hk
theorem lc_filter {g : En} {vs : List Nat} {dg : D → En → (En → Prop) → Prop} {dt : DT} {de : DE} {X : EK} {k : D → MS → Prop} {ys : List D} {M : MS} (p : D → Bool) (f : D → D) (hM : ∀ c ∈ M, ClnC c) (hl : ys.length < sizeLine) (hf : ∀ y ∈ ys, Cln (f y))
    (he : ∀ y ∈ ys, ∀ (acc : List D), (∀ d ∈ acc, Cln d) → ∀ (P : D → MS → Prop) (R : Prop), (p y = true → P (f y) (M ++ [.lst acc])) → (p y = false → R) → dg y (wipeD g vs) fun g2 => dt g2 (M ++ [.lst acc]) X0 fun b M2 => M2 = M ++ [.lst acc] ∧ if b = true then de g2 (M ++ [.lst acc]) X0 P else R)
    (hk : k (.lst ((ys.filter p).map f)) M) : LcB g vs dg dt de X k ys M := by
  refine ⟨hM, hl, fun i acc => acc = ((ys.take i).filter p).map f, by simp, ?_, ?_⟩
  · rintro i y acc e rfl
    have hy : y ∈ ys := List.mem_of_getElem? e
    refine he y hy _ (fun d hd => by obtain ⟨y', hy', rfl⟩ := List.mem_map.mp hd; exact hf y' (List.mem_of_mem_take (List.mem_filter.mp hy').1)) _ _ (fun hp => ⟨rfl, hf y hy, ?_⟩) fun hp => ?_
    · show _ = ((ys.take (i + 1)).filter p).map f
      rw [List.take_add_one, e, List.filter_append, List.map_append]; simp [hp]
    · show _ = ((ys.take (i + 1)).filter p).map f
      rw [List.take_add_one, e, List.filter_append, List.map_append]; simp [hp]
  · rintro acc rfl
    rw [List.take_length]
    exact hk
/-- a comprehension without condition whose elements are of a kind -/
theorem lc_all {g : En} {vs : List Nat} {dg : D → En → (En → Prop) → Prop} {de : DE} {X : EK} {k : D → MS → Prop} {ys : List D} {M : MS} (R : D → D → Prop) (hM : ∀ c ∈ M, ClnC c) (hl : ys.length < sizeLine) (hf : ∀ y z, R y z → Cln z)
    (he : ∀ y ∈ ys, ∀ (acc : List D), (∀ d ∈ acc, Cln d) → ∀ (P : D → MS → Prop), (∀ z, R y z → P z (M ++ [.lst acc])) → dg y (wipeD g vs) fun g2 => de g2 (M ++ [.lst acc]) X0 P) (hk : ∀ zs : List D, zs.length = ys.length → (∀ (i : Nat) (y z : D), ys[i]? = some y → zs[i]? = some z → R y z) → k (.lst zs) M) : LcB g vs dg dYes de X k ys M := by
  refine ⟨hM, hl, fun i acc => acc.length = min i ys.length ∧ ∀ (j : Nat) (y z : D), ys[j]? = some y → acc[j]? = some z → R y z, ⟨by simp, fun j y z _ h => by simp at h⟩, ?_, ?_⟩
  · rintro i y acc e ⟨h1, h2⟩
    have hy : y ∈ ys := List.mem_of_getElem? e
    have hi : i < ys.length := (List.getElem?_eq_some_iff.mp e).1
    have h := he y hy acc (fun d hd => by obtain ⟨j, hj⟩ := List.mem_iff_getElem?.mp hd; have hj2 := (List.getElem?_eq_some_iff.mp hj).1; exact hf _ _ (h2 j _ d (List.getElem?_eq_getElem (by omega)) hj)) (fun z M3 => M3 = M ++ [.lst acc] ∧ Cln z ∧ (acc ++ [z]).length = min (i + 1) ys.length ∧ ∀ j y z', ys[j]? = some y → (acc ++ [z])[j]? = some z' → R y z') (fun z hz => ⟨rfl, hf _ _ hz, by rw [List.length_append, h1, List.length_singleton]; omega, by
      intro j y' z' e1 e2
      by_cases hj : j < acc.length
      · rw [List.getElem?_append_left hj] at e2
        exact h2 j y' z' e1 e2
      · have hj2 := (List.getElem?_eq_some_iff.mp e2).1
        rw [List.length_append, List.length_singleton] at hj2
        have hj3 : j = acc.length := by omega
        have hj4 : j = i := by omega
        subst hj4
        rw [e] at e1; cases e1
        rw [hj3, List.getElem?_append_right (Nat.le_refl _)] at e2
        simp at e2
        exact e2 ▸ hz⟩)
    unfold dYes
    simpa using h
  · rintro acc ⟨h1, h2⟩
    exact hk acc (by omega) h2
theorem for_inv {g : En} {dg : D → En → (En → Prop) → Prop} {b : DS} {N : DN} {ys : List D} {M : MS} (Inv : Nat → En → MS → Prop) (h0 : Inv 0 g M)
    (h1 : ∀ (i : Nat) (y : D) (g1 : En) (M1 : MS), ys[i]? = some y → Inv i g1 M1 → dg y g1 fun g2 => b g2 M1 { N with nx := Inv (i + 1), ct := Inv (i + 1), bk := N.nx }) (h2 : ∀ g1 M1, Inv ys.length g1 M1 → N.nx g1 M1) : ForB g dg b N ys M := ⟨Inv, h0, h1, h2⟩
def WhB (c : DT) (b : DS) (g : En) (M : MS) (N : DN) : Prop := sWhile c b g M N
theorem eqD_int (a b : Int) : eqD (.int a) (.int b) = decide (a = b) := by
  show (a == b) = _
  by_cases h : a = b
  · rw [decide_eq_true h]; exact beq_iff_eq.mpr h
  · rw [decide_eq_false h]; exact beq_false_of_ne h
theorem eqD_bl (a b : Bool) : eqD (.bl a) (.bl b) = decide (a = b) := by cases a <;> cases b <;> rfl
theorem eqOk_int (M : MS) (i : Int) : EqOk M (.int i) = True := eq_true ⟨.int _ _, fun j e => nomatch e⟩
theorem eqOk_bl (M : MS) (i : Bool) : EqOk M (.bl i) = True := eq_true ⟨.bl _ _, fun j e => nomatch e⟩
theorem eqOk_non (M : MS) : EqOk M .non = True := eq_true ⟨.non _, fun j e => nomatch e⟩
theorem cellD_int (M : MS) (i : Int) : cellD M (.int i) = .int i := rfl
theorem cellD_bl (M : MS) (i : Bool) : cellD M (.bl i) = .bl i := rfl
theorem cellD_tup (M : MS) (i : List D) : cellD M (.tup i) = .tup i := rfl
theorem cellD_lst (M : MS) (i : List D) : cellD M (.lst i) = .lst i := rfl
theorem seqOf_lst (M : MS) (xs : List D) : seqOf (.lst xs) M = some xs := rfl
theorem seqOf_tup (M : MS) (xs : List D) : seqOf (.tup xs) M = some xs := rfl
theorem lstOf_lst (M : MS) (xs : List D) : lstOf (.lst xs) M = some xs := rfl
theorem seqOf_ptr {M : MS} {j : Nat} {xs : List D} (h : M[j]? = some (.lst xs)) : seqOf (.ptr j) M = some xs := by simp [seqOf, h]
theorem lstOf_ptr {M : MS} {j : Nat} {xs : List D} (h : M[j]? = some (.lst xs)) : lstOf (.ptr j) M = some xs := by simp [lstOf, h]
theorem sizeLine_val : sizeLine = 16777216 := by decide
theorem atD_0 (x : D) (xs : List D) : atD (x :: xs) 0 = some x := by
  have : ixN (x :: xs).length 0 = some 0 := by
    unfold ixN
    have : (0 : Int) < (x :: xs).length := by simp
    rw [if_pos (by decide), if_pos (by simpa using this)]
    rfl
  unfold atD
  rw [this]
  rfl
theorem atD_nat {xs : List D} {i : Nat} : atD xs (i : Int) = xs[i]? := by
  unfold atD ixN
  by_cases h : i < xs.length
  · rw [if_pos (by omega), if_pos (by omega)]
    rfl
  · rw [if_pos (by omega), if_neg (by omega), List.getElem?_eq_none (by omega)]
    rfl
theorem atD_in {xs : List D} {i : Int} (h0 : 0 ≤ i) : atD xs i = xs[i.toNat]? := by
  have h := atD_nat (xs := xs) (i := i.toNat)
  rwa [Int.toNat_of_nonneg h0] at h
theorem atD_1 (x y : D) (xs : List D) : atD (x :: y :: xs) 1 = some y := by
  have h := atD_nat (xs := x :: y :: xs) (i := 1)
  simpa using h
theorem atD_2 (x y z : D) (xs : List D) : atD (x :: y :: z :: xs) 2 = some z := by
  have h := atD_nat (xs := x :: y :: z :: xs) (i := 2)
  simpa using h
theorem get_app {M L : MS} {j : Nat} {c : Cell} (h : M[j]? = some c) : (M ++ L)[j]? = some c := by
  rw [List.getElem?_append_left (List.getElem?_eq_some_iff.mp h).1]
  exact h
theorem iL_cons (a : Int) (l : List Int) : iL (a :: l) = .int a :: iL l := rfl
theorem iL_nil : iL [] = [] := rfl
theorem iL_len (l : List Int) : (iL l).length = l.length := by unfold iL; rw [List.length_map]
theorem iL_get (l : List Int) (i : Nat) : (iL l)[i]? = l[i]?.map D.int := by unfold iL; rw [List.getElem?_map]
theorem iL_inj {a b : List Int} (h : iL a = iL b) : a = b := by
  induction a generalizing b with
  | nil => cases b with
    | nil => rfl
    | cons y b => cases h
  | cons x a ih => cases b with
    | nil => cases h
    | cons y b =>
      injection h with h1 h2
      injection h1 with h1
      rw [h1, ih h2]
theorem iL_cln {l : List Int} : ∀ d ∈ iL l, Cln d := fun d h => by
  obtain ⟨i, _, rfl⟩ := List.mem_map.mp h
  exact .int i
theorem cln_iL (l : List Int) : Cln (.lst (iL l)) := .lst iL_cln
theorem cln_tL (l : List Int) : Cln (.tup (iL l)) := .tup iL_cln
theorem clnC_app {M : MS} {c : Cell} (h : ∀ c ∈ M, ClnC c) (hc : ClnC c) : ∀ d ∈ M ++ [c], ClnC d := fun d hd => by
  rcases List.mem_append.mp hd with q | q
  · exact h d q
  · rw [List.mem_singleton] at q; subst q; exact hc
theorem clnC_set {M : MS} {j : Nat} {c : Cell} (h : ∀ c ∈ M, ClnC c) (hc : ClnC c) : ∀ d ∈ M.set j c, ClnC d := fun d hd => by
  rcases List.mem_or_eq_of_mem_set hd with q | q
  · exact h d q
  · subst q; exact hc
theorem set_same {M : MS} {j : Nat} {c : Cell} (h : M[j]? = some c) : M.set j c = M := by
  refine List.ext_getElem? fun k => ?_
  by_cases e : j = k
  · subst e; rw [List.getElem?_set_self (List.getElem?_eq_some_iff.mp h).1, h]
  · rw [List.getElem?_set_ne e]
theorem set_get {M : MS} {j : Nat} {c d : Cell} (h : M[j]? = some c) : (M.set j d)[j]? = some d := List.getElem?_set_self (List.getElem?_eq_some_iff.mp h).1
theorem filt_iL (p : Int → Bool) (l : List Int) (q : D → Bool) (h : ∀ i, q (.int i) = p i) : (iL l).filter q = iL (l.filter p) := by
  induction l with
  | nil => rfl
  | cons a l ih =>
    rw [iL_cons, List.filter_cons, List.filter_cons, h, ih]
    cases p a <;> rfl
theorem wipeD_nil (g : En) : wipeD g [] = g := rfl
theorem wipeD_cons (g : En) (v : Nat) (vs : List Nat) : wipeD g (v :: vs) = (wipeD g vs).set v none := rfl

theorem seqOf_set {M : MS} {j : Nat} (h : j < M.length) (xs : List D) : seqOf (.ptr j) (M.set j (.lst xs)) = some xs := seqOf_ptr (List.getElem?_set_self h)
theorem lstOf_set {M : MS} {j : Nat} (h : j < M.length) (xs : List D) : lstOf (.ptr j) (M.set j (.lst xs)) = some xs := lstOf_ptr (List.getElem?_set_self h)
theorem ixN_0 {n : Nat} : ixN (n + 1) 0 = some 0 := by unfold ixN; rw [if_pos (by decide), if_pos (by omega)]; rfl
theorem ixN_1 {n : Nat} : ixN (n + 1 + 1) 1 = some 1 := by unfold ixN; rw [if_pos (by decide), if_pos (by omega)]; rfl
theorem rdEq_i (a b : Int) (M : MS) (k : D → Prop) : rdEq (.int a) (.int b) M k = k (.bl (decide (a = b))) := by
  unfold rdEq
  rw [eqOk_int, eqOk_int, cellD_int, cellD_int, eqD_int, true_and, true_and]
theorem rdNe_i (a b : Int) (M : MS) (k : D → Prop) : rdNe (.int a) (.int b) M k = k (.bl (!decide (a = b))) := by
  unfold rdNe
  rw [eqOk_int, eqOk_int, cellD_int, cellD_int, eqD_int, true_and, true_and]
theorem sI_2 {n : Nat} : seqIndex? 2 (n + 1 + 1 + 1) = some 2 := by unfold seqIndex?; simp; omega
theorem rdInt_i (i : Int) (M : MS) (k : D → Prop) : rdInt [.int i] M k = k (.int i) := by simp [rdInt]
theorem rdInt_b (b : Bool) (M : MS) (k : D → Prop) : rdInt [.bl b] M k = k (.int (if b then 1 else 0)) := by simp [rdInt]
theorem rdAbs_i (i : Int) (M : MS) (k : D → Prop) : rdAbs [.int i] M k = k (.int (if i < 0 then -i else i)) := by simp [rdAbs]
theorem rdMax2_i (i j : Int) (M : MS) (k : D → Prop) : rdMax2 [.int i, .int j] M k = k (.int (if j > i then j else i)) := by
  refine propext ⟨?_, fun h => ⟨i, j, rfl, h⟩⟩
  rintro ⟨a, b, e, h⟩
  injection e with e1 e2; injection e2 with e2; injection e1 with e1; injection e2 with e2; subst e1 e2
  exact h
local macro_rules | `(tactic| walk_at "ev") => `(tactic| simp only [sSeq, sAsg, sRet, sRetN, sIf, sDrop, sNx, sPar, sPar3, gN, gT, gsCons, gsNil, dV, dC, dI, dOp, dUn, dCh, dB, dAnd, dOr, dNot, dAndV, dOrV, dNotV, dIf, dNil, dCons, dTup, dLst, dCB, dCall, dI0, dI2, rdLen, rdIsi, rdIx, dGet,
  sFor_eq, dLc_eq, iTp, iLs, iSc, iR1, iR2, iEnT, iEnL, wipeD_nil, wipeD_cons, sOpen, dShut, sBrk, sCnt, sNever, dNeg, dPart, dNoPart, dSl, sAug, sSetL, dApp, dPopAt, dNewL, dNewCat, dToRng, sPut, dMake, finG, sRaise0, sRaise1, sFrz, dNewRep, dNewList, dPop, dStar, dUn,
  rdEq_i, rdNe_i, sI_2, ixN_0, ixN_1, Cell.lst.injEq, rdInt_i, rdInt_b, rdAbs_i, rdMax2_i, eqD_int, eqOk_int, cellD_int, eqD_bl, eqOk_bl, cellD_bl, eqOk_non, seqOf_lst, seqOf_tup, lstOf_lst, atD_0, atD_1, atD_2, List.set_set, cellD_lst, cellD_tup, iL_cons, iL_nil, iL_len,
  startD, bodyN, List.map_cons, List.map_nil, List.length_cons, List.length_nil, List.replicate_succ, List.replicate_zero, List.cons_append, List.nil_append, List.append_nil, List.append_assoc, List.getElem?_cons_zero, List.getElem?_cons_succ, List.set_cons_zero, List.set_cons_succ, Nat.reduceSub, Nat.reduceAdd, Nat.zero_add,
  Option.some.injEq, exists_eq_left', exists_eq_left, D.int.injEq, D.bl.injEq, D.lst.injEq, D.tup.injEq, D.str.injEq, D.ptr.injEq, D.scr.injEq, D.gm.injEq, List.cons.injEq, and_true, true_and, exists_and_left, exists_and_right, D.ty.injEq, and_assoc, ↓reduceIte, eq_self, Bool.not_true, Bool.not_false, Bool.false_eq_true])

def D.isI : D → Bool
  | .int _ => true
  | _ => false
def isFrom (x : D) (lo hi : Int) : Bool := match x with
  | .int i => decide (lo ≤ i) && decide (i ≤ hi)
  | _ => false
abbrev sp_is_integer : DSp := fun xs M X k => ∃ x, xs = [x] ∧ tyN x M ∈ tyL ∧ k (.bl (D.isI x)) M
abbrev d_is_integer : DS := (sRet (dAndV (dCB rdIsi (dCons (dV 0) (dCons (dC (.ty "int")) dNil))) (dNotV (dCB rdIsi (dCons (dV 0) (dCons (dC (.ty "bool")) dNil))))))
theorem isB_int {x : D} {M : MS} (h : tyN x M ∈ tyL) : isB (tyN x M) "int" = (D.isI x || isB (tyN x M) "bool") ∧ (D.isI x = true → isB (tyN x M) "bool" = false) := by
  cases x with
  | ptr j =>
    unfold tyN at h ⊢
    dsimp only at h ⊢
    split
    · exact ⟨rfl, fun e => by cases e⟩
    · rename_i q
      split at h
      · rename_i xs q2; exact absurd q2 (q xs)
      · exact absurd h (by decide)
  | gm a b c => exact absurd h (by simp [tyN, tyL])
  | scr a => exact absurd h (by simp [tyN, tyL])
  | ty a => exact absurd h (by simp [tyN, tyL])
  | gcl => exact absurd h (by simp [tyN, tyL])
  | exc _ _ _ => exact absurd h (by simp [tyN, tyL])
  | exn _ => exact absurd h (by simp [tyN, tyL])
  | ecl _ => exact absurd h (by simp [tyN, tyL])
  | _ => exact ⟨rfl, fun e => by first | rfl | cases e⟩
theorem pure_is_integer : ∀ ys M X P, sp_is_integer ys M X P → d_is_integer (startD 1 ys) M (bodyN M.length X P) := by
  rintro ys M X P ⟨x, rfl, h, q⟩
  unfold d_is_integer
  walk_at "ev"
  refine ⟨h, by decide, ?_⟩
  obtain ⟨h1, h2⟩ := isB_int h
  rw [h1]
  cases e : D.isI x with
  | true => rw [e] at q; rw [h2 e]; exact ⟨h, by decide, .same q⟩
  | false =>
    rw [e] at q
    cases e2 : isB (tyN x M) "bool" with
    | false => exact .same q
    | true => exact ⟨h, by decide, .same q⟩
abbrev sp_is_from : DSp := fun xs M X k => ∃ x lo hi, xs = [x, .int lo, .int hi] ∧ tyN x M ∈ tyL ∧ k (.bl (isFrom x lo hi)) M
abbrev d_is_from : DS := (sRet (dAndV (dCall sp_is_integer [] (dCons (dV 0) dNil)) (dCh rdLe rdLe (dV 1) (dV 0) (dV 2))))
theorem pure_is_from : ∀ ys M X P, sp_is_from ys M X P → d_is_from (startD 3 ys) M (bodyN M.length X P) := by
  rintro ys M X P ⟨x, lo, hi, rfl, h, q⟩
  unfold d_is_from
  walk_at "ev"
  refine ⟨x, rfl, h, ?_⟩
  walk_at "ev"
  cases x with
  | int i =>
    unfold isFrom at q
    simp only [D.isI, if_true]
    walk_at "ev"
    by_cases c : lo ≤ i
    · simp only [c, decide_true, if_true, Bool.true_and] at q ⊢
      exact .same q
    · simp only [c, decide_false, Bool.false_and] at q ⊢
      exact .same q
  | _ => exact .same q
/-! ### the source of numbers -/
abbrev sp_law_random : DSp := fun xs M X k => ∃ l salt, xs = [.scr l, .int salt] ∧ 0 ≤ salt ∧ l.length < 1000 ∧ (∀ c ∈ M, ClnC c) ∧ k (.ptr M.length) (M ++ [.rng])
abbrev d_law_random : DS := (sSeq (sAsg (dV 1) (gN 2)) (sSeq (sFor (iSc (dV 0)) (gN 3) (sAsg (dOp rdMod (dCB rdInt (dCons (dOp rdAdd (dOp rdMul (dV 2) (dI 31)) (dCB rdAbs (dCons (dV 3) dNil))) dNil)) (dI 2147483647)) (gN 2))) (sRet (dToRng (dNewCat (dLst (dCons (dV 2) (dCons (dI 0) dNil))) (dLc (iSc (dV 0)) (gN 3) (dB (dOp rdGe (dV 3) (dOp rdPow (dI 10) (dI 18)))) (dV 3) [3]))))))
theorem pure_law_random : ∀ ys M X P, sp_law_random ys M X P → d_law_random (startD 4 ys) M (bodyN M.length X P) := by
  rintro ys M X P ⟨l, salt, rfl, h0, hl, hM, q⟩
  unfold d_law_random
  walk_at "ev"
  refine for_inv (fun i g M' => ∃ s a, 0 ≤ s ∧ g = [some (.scr l), some (.int salt), some (.int s), a] ∧ M' = M) ⟨salt, none, h0, rfl, rfl⟩ ?_ ?_
  · rintro i y g1 M1 e ⟨s, a, hs, rfl, rfl⟩
    rw [iL_get] at e
    obtain ⟨c, _, rfl⟩ : ∃ c, l[i]? = some c ∧ D.int c = y := by
      cases h : l[i]? with
      | none => rw [h] at e; cases e
      | some c => exact ⟨c, rfl, by simpa [h] using e⟩
    walk_at "ev"
    refine ⟨mulB (by decide), by decide, _, Int.emod_nonneg _ (by decide), rfl, _, rfl⟩
  · rintro g1 M1 ⟨s, a, hs, rfl, rfl⟩
    walk_at "ev"
    refine ⟨by decide, lc_filter (fun y => match y with | .int i => decide (10 ^ 18 ≤ i) | _ => false) id hM (by rw [iL_len, sizeLine_val]; omega) (fun y hy => iL_cln y hy) ?_ ?_⟩
    · intro y hy acc _ P R h1 h2
      obtain ⟨c, _, rfl⟩ := List.mem_map.mp hy
      walk_at "ev"
      refine ⟨⟨by decide, by decide, by decide⟩, ?_⟩
      by_cases hc : (10 : Int) ^ 18 ≤ c
      · have e : decide ((10 : Int) ^ Int.toNat 18 ≤ c) = true := decide_eq_true hc
        rw [e]
        simpa using h1 (decide_eq_true hc)
      · have e : decide ((10 : Int) ^ Int.toNat 18 ≤ c) = false := decide_eq_false hc
        rw [e]
        simpa using h2 (decide_eq_false hc)
    · rw [List.map_id, filt_iL (fun i => decide (10 ^ 18 ≤ i)) l _ (fun i => rfl)]
      have hf := List.length_filter_le (fun i => decide ((10 : Int) ^ 18 ≤ i)) l
      refine ⟨_, lstOf_lst _ _, by rw [iL_len, sizeLine_val]; omega, s :: 0 :: l.filter (fun i => decide (10 ^ 18 ≤ i)), ?_, ⟨by simp, ?_⟩, ?_⟩
      · rw [List.getElem?_append_right (Nat.le_refl _), Nat.sub_self]; rfl
      · intro i hi
        rcases List.mem_cons.mp hi with rfl | hi
        · exact hs
        rcases List.mem_cons.mp hi with rfl | hi
        · decide
        have := (List.mem_filter.mp hi).2
        have := of_decide_eq_true this
        omega
      · refine .same ?_
        rw [List.set_append_right _ _ (Nat.le_refl _), Nat.sub_self]
        exact q
theorem divB2 {i j : Int} (h0 : 0 < j) (h : j < 2 ^ 200) : CDivW i j := by
  refine wide_div (b := 200) h0 ?_ (by decide) (by decide)
  have h2 : j < ((2 ^ 200 : Nat) : Int) := by
    rw [Int.natCast_pow]
    exact h
  omega
abbrev sp_law_below : DSp := fun xs M X k => ∃ j n, xs = [.ptr j, .int n] ∧ M[j]? = some .rng ∧ 0 < n ∧ n < 2 ^ 200 ∧ ∀ r, 0 ≤ r → r < n → k (.int r) M
abbrev d_law_below : DS := (sOpen 0 (sSeq (sIf (dAnd (dB (dOp rdEq (dOp rdIx (dV 0) (dI 1)) (dI 0))) (dB (dOp rdGt (dCB rdLen (dCons (dV 0) dNil)) (dI 2)))) (sSetL (dPopAt (dV 0) (dI 2)) (dV 0) (dI 1)) sNx) (sSeq (sIf (dB (dOp rdGt (dOp rdIx (dV 0) (dI 1)) (dI 0))) (sSeq (sAsg (dOp rdMod (dCB rdInt (dCons (dOp rdIx (dV 0) (dI 1)) dNil)) (dV 1)) (gN 2)) (sSeq (sSetL (dOp rdDiv (dOp rdIx (dV 0) (dI 1)) (dV 1)) (dV 0) (dI 1)) (sRet (dShut 0 (dV 2))))) sNx) (sSeq (sSetL (dOp rdMod (dCB rdInt (dCons (dOp rdAdd (dOp rdMul (dOp rdIx (dV 0) (dI 0)) (dI 48271)) (dI 11)) dNil)) (dI 2147483647)) (dV 0) (dI 0)) (sRet (dShut 0 (dOp rdMod (dCB rdInt (dCons (dOp rdDiv (dOp rdIx (dV 0) (dI 0)) (dI 64)) dNil)) (dV 1))))))))
theorem pure_law_below : ∀ ys M X P, sp_law_below ys M X P → d_law_below (startD 3 ys) M (bodyN M.length X P) := by
  rintro ys M X P ⟨j, n, rfl, hj, hn, hn2, q⟩
  unfold d_law_below
  walk_at "ev"
  refine ⟨hj, ?_⟩
  rintro ns ⟨h1, h2⟩
  obtain ⟨a, b, r, rfl⟩ : ∃ a b r, ns = a :: b :: r := by
    match ns, h1 with
    | a :: b :: r, _ => exact ⟨a, b, r, rfl⟩
  have hlt : j < M.length := (List.getElem?_eq_some_iff.mp hj).1
  have ha := h2 a (by simp)
  have hb := h2 b (by simp)
  have hS : M.set j .rng = M := set_same hj
  by_cases hb0 : b = 0
  · subst hb0
    cases r with
    | nil =>
      simp only [seqOf_set hlt, List.getElem?_set_self hlt]
      walk_at "ev"
      simp
      exact ⟨mulB (by decide), divB (by decide) (by decide), hn, [_, 0], rfl, ⟨by simp, by simp [Int.emod_nonneg]⟩, .same (by rw [hS]; exact q _ (Int.emod_nonneg _ (by omega)) (Int.emod_lt_of_pos _ hn))⟩
    | cons c r =>
      simp only [seqOf_set hlt, List.getElem?_set_self hlt]
      walk_at "ev"
      simp
      have hc := h2 c (by simp)
      have hr : ∀ x ∈ r, 0 ≤ x := fun x hx => h2 x (by simp [hx])
      rw [if_pos (by omega)]
      walk_at "ev"
      by_cases hc0 : 0 < c
      · rw [if_pos hc0]
        refine ⟨hn, divB2 hn hn2, a :: c / n :: r, rfl, ⟨by simp, ?_⟩, .same (by rw [hS]; exact q _ (Int.emod_nonneg _ (by omega)) (Int.emod_lt_of_pos _ hn))⟩
        intro x hx
        rcases List.mem_cons.mp hx with rfl | hx
        · exact ha
        rcases List.mem_cons.mp hx with rfl | hx
        · exact Int.ediv_nonneg hc (by omega)
        exact hr x hx
      · rw [if_neg hc0]
        refine ⟨mulB (by decide), divB (by decide) (by decide), hn, _ :: c :: r, rfl, ⟨by simp, ?_⟩, .same (by rw [hS]; exact q _ (Int.emod_nonneg _ (by omega)) (Int.emod_lt_of_pos _ hn))⟩
        intro x hx
        rcases List.mem_cons.mp hx with rfl | hx
        · exact Int.emod_nonneg _ (by decide)
        rcases List.mem_cons.mp hx with rfl | hx
        · exact hc
        exact hr x hx
  · simp only [seqOf_set hlt, List.getElem?_set_self hlt]
    walk_at "ev"
    simp
    rw [if_neg hb0, if_pos (by omega)]
    refine ⟨hn, divB2 hn hn2, a :: b / n :: r, rfl, ⟨by simp, ?_⟩, .same (by rw [hS]; exact q _ (Int.emod_nonneg _ (by omega)) (Int.emod_lt_of_pos _ hn))⟩
    intro x hx
    rcases List.mem_cons.mp hx with rfl | hx
    · exact ha
    rcases List.mem_cons.mp hx with rfl | hx
    · exact Int.ediv_nonneg hb (by omega)
    exact h2 x (by simp [hx])
abbrev sp_law_pick : DSp := fun xs M X k => ∃ j x ys, xs = [.ptr j, x] ∧ seqOf x M = some ys ∧ M[j]? = some .rng ∧ ys ≠ [] ∧ ys.length < 2 ^ 60 ∧ ∀ y ∈ ys, k y M
abbrev d_law_pick : DS := (sRet (dOp rdIx (dV 1) (dCall sp_law_below [] (dCons (dV 0) (dCons (dCB rdLen (dCons (dV 1) dNil)) dNil)))))
--  2 ['_law_d', '_law_items']
theorem pure_law_pick : ∀ ys M X P, sp_law_pick ys M X P → d_law_pick (startD 2 ys) M (bodyN M.length X P) := by
  rintro ys M X P ⟨j, x, zs, rfl, hx, hj, hne, hl, q⟩
  unfold d_law_pick
  walk_at "ev"
  have hp : 0 < zs.length := List.length_pos_iff.mpr hne
  refine ⟨zs, hx, j, _, rfl, hj, by omega, by omega, fun r h0 h1 => ⟨zs, hx, r, rfl, zs[r.toNat]'(by omega), ?_, .same (q _ (List.getElem_mem _))⟩⟩
  · rw [atD_in h0]
    exact List.getElem?_eq_getElem (by omega)
/-! ### Game -/
structure GOk (n s : Int) (ws : List Int) : Prop where
  n2 : 2 ≤ n
  n12 : n ≤ 12
  s2 : 2 ≤ s
  s9 : s ≤ 9
  l1 : 1 ≤ ws.length
  ls : (ws.length : Int) < s
  w : ∀ w ∈ ws, 1 ≤ w ∧ w ≤ n - 1
  up : ∀ (i : Nat) (a b : Int), ws[i]? = some a → ws[i + 1]? = some b → a < b
def leD (x y : D) : Bool := match x, y with
  | .int a, .int b => decide (a ≤ b)
  | _, _ => false
def badAt (n : Int) (ys : List D) (i : Nat) : Bool := !(isFrom (ys.getD i .non) 1 (n - 1)) || (decide (0 < i) && leD (ys.getD i .non) (ys.getD (i - 1) .non))
def firstBad (n : Int) (ys : List D) : Option Nat := (List.range ys.length).find? (badAt n ys)
def intD : D → Int
  | .int i => i
  | _ => 0
def gameErr (x y z : D) : Option Exn := if isFrom x 2 12 = false then some ⟨"BadChildren", none⟩ else if isFrom y 2 9 = false then some ⟨"BadParts", none⟩ else match z with
  | .tup ys => if 1 ≤ ys.length ∧ (ys.length : Int) < intD y then (firstBad (intD x) ys).map (fun (i : Nat) => (⟨"BadSteps", some ("index", .int (i : Int))⟩ : Exn)) else some ⟨"BadSteps", some ("index", .non)⟩
  | _ => some ⟨"BadSteps", some ("index", .non)⟩
theorem isFrom_int {x : D} {lo hi : Int} (h : isFrom x lo hi = true) : ∃ i, x = .int i ∧ lo ≤ i ∧ i ≤ hi := by
  cases x with
  | int i =>
    simp only [isFrom, Bool.and_eq_true, decide_eq_true_eq] at h
    exact ⟨i, rfl, h⟩
  | _ => cases h
theorem isFrom_i {lo hi i : Int} (h : lo ≤ i ∧ i ≤ hi) : isFrom (.int i) lo hi = true := by
  simp only [isFrom, Bool.and_eq_true, decide_eq_true_eq]
  exact h
theorem find_lt {p : Nat → Bool} {n i : Nat} (h1 : ∀ j, j < i → p j = false) (h2 : p i = true) (hi : i < n) : (List.range n).find? p = some i := by
  rw [List.find?_range_eq_some]
  exact ⟨h2, by simpa using hi, fun j hj => by simpa using h1 j hj⟩
theorem find_none {p : Nat → Bool} {n : Nat} (h1 : ∀ j, j < n → p j = false) : (List.range n).find? p = none := by
  rw [List.find?_range_eq_none]
  intro j hj
  simpa using h1 j hj
theorem enumD_inv {ys : List D} {i : Nat} {y : D} (h : (enumD ys)[i]? = some y) : ∃ d, ys[i]? = some d ∧ y = .tup [.int (i : Int), d] := by
  have hi := (List.getElem?_eq_some_iff.mp h).1
  rw [enumD_len] at hi
  have e := enumD_get (List.getElem?_eq_getElem hi)
  rw [e] at h
  cases h
  exact ⟨_, List.getElem?_eq_getElem hi, rfl⟩
theorem getD_of {ys : List D} {i : Nat} {d : D} (h : ys[i]? = some d) : ys.getD i .non = d := by
  rw [List.getD_eq_getElem?_getD, h]; rfl
theorem gameErr_none {n s : Int} {ws : List Int} (g : GOk n s ws) : gameErr (.int n) (.int s) (.tup (iL ws)) = none := by
  unfold gameErr
  rw [isFrom_i ⟨g.n2, g.n12⟩, isFrom_i ⟨g.s2, g.s9⟩, if_neg (by decide), if_neg (by decide)]
  show (if 1 ≤ (iL ws).length ∧ ((iL ws).length : Int) < s then _ else _) = none
  rw [if_pos (by rw [iL_len]; exact ⟨g.l1, g.ls⟩)]
  have : firstBad n (iL ws) = none := find_none fun j hj => by
    rw [iL_len] at hj
    have e : (iL ws)[j]? = some (.int ws[j]) := by rw [iL_get, List.getElem?_eq_getElem hj]; rfl
    unfold badAt
    rw [getD_of e, isFrom_i (g.w _ (List.getElem_mem hj))]
    cases j with
    | zero => rfl
    | succ j =>
      have e2 : (iL ws)[j]? = some (.int ws[j]) := by rw [iL_get, List.getElem?_eq_getElem (by omega)]; rfl
      have e3 : (iL ws).getD (j + 1 - 1) .non = .int ws[j] := getD_of e2
      rw [e3]
      have := g.up j ws[j] ws[j + 1] (List.getElem?_eq_getElem (by omega)) (List.getElem?_eq_getElem hj)
      show (!true || (decide (0 < j + 1) && decide (ws[j + 1] ≤ ws[j]))) = false
      rw [decide_eq_false (by omega : ¬ ws[j + 1] ≤ ws[j]), Bool.and_false]
      rfl
  show (firstBad n (iL ws)).map _ = none
  rw [this]
  rfl
theorem gameErr_ok {x y z : D} (h : gameErr x y z = none) : ∃ n s ws, x = .int n ∧ y = .int s ∧ z = .tup (iL ws) ∧ GOk n s ws := by
  unfold gameErr at h
  split at h
  · cases h
  split at h
  · cases h
  rename_i h1 h2
  obtain ⟨n, rfl, h3, h4⟩ := isFrom_int (Bool.not_eq_false _ ▸ h1)
  obtain ⟨s, rfl, h5, h6⟩ := isFrom_int (Bool.not_eq_false _ ▸ h2)
  split at h
  · rename_i ys
    split at h
    · rename_i h7
      have hb : ∀ j, j < ys.length → badAt n ys j = false := by
        have : firstBad n ys = none := by
          cases e : firstBad n ys with
          | none => rfl
          | some i => exfalso; change (firstBad n ys).map _ = none at h; rw [e] at h; cases h
        unfold firstBad at this
        rw [List.find?_range_eq_none] at this
        intro j hj
        simpa using this j hj
      have hint : ∀ (j : Nat) (d : D), ys[j]? = some d → ∃ i, d = .int i ∧ 1 ≤ i ∧ i ≤ n - 1 := fun j d e => by
        have := hb j (List.getElem?_eq_some_iff.mp e).1
        unfold badAt at this
        rw [getD_of e, Bool.or_eq_false_iff] at this
        exact isFrom_int (by simpa using this.1)
      have hys : ys = iL (ys.map intD) := by
        unfold iL
        rw [List.map_map]
        refine List.ext_getElem? fun j => ?_
        rw [List.getElem?_map]
        cases e : ys[j]? with
        | none => rfl
        | some d => obtain ⟨i, rfl, _⟩ := hint j d e; rfl
      refine ⟨n, s, ys.map intD, rfl, rfl, by rw [← hys], ⟨h3, h4, h5, h6, by rw [List.length_map]; exact h7.1, by rw [List.length_map]; exact h7.2, ?_, ?_⟩⟩
      · intro w hw
        obtain ⟨d, hd, rfl⟩ := List.mem_map.mp hw
        obtain ⟨j, hj⟩ := List.mem_iff_getElem?.mp hd
        obtain ⟨i, rfl, h⟩ := hint j d hj
        exact h
      · intro j a b ea eb
        rw [List.getElem?_map] at ea eb
        cases e1 : ys[j]? with
        | none => rw [e1] at ea; cases ea
        | some d1 =>
          cases e2 : ys[j + 1]? with
          | none => rw [e2] at eb; cases eb
          | some d2 =>
            rw [e1] at ea; rw [e2] at eb
            obtain ⟨i1, rfl, _⟩ := hint j d1 e1
            obtain ⟨i2, rfl, _⟩ := hint (j + 1) d2 e2
            cases ea; cases eb
            have := hb (j + 1) (List.getElem?_eq_some_iff.mp e2).1
            unfold badAt at this
            rw [getD_of e2, show j + 1 - 1 = j from rfl, getD_of e1, Bool.or_eq_false_iff] at this
            have h8 := this.2
            rw [decide_eq_true (by omega : 0 < j + 1), Bool.true_and] at h8
            have := of_decide_eq_false h8
            show i1 < i2
            omega
    · cases h
  · cases h
abbrev sp_Game_init (cG : Addr) : DSp := fun xs M X k => ∃ j x y z, xs = [.ptr j, x, y, z] ∧ M[j]? = some (.ins cG []) ∧ tyN x M ∈ tyL ∧ tyN y M ∈ tyL ∧ tyN z M ∈ tyL ∧ (∀ ys, z = .tup ys → ∀ d ∈ ys, tyN d M ∈ tyL) ∧ (∀ e, gameErr x y z = some e → X e M) ∧
  ∀ n s ws, x = .int n → y = .int s → z = .tup (iL ws) → GOk n s ws → k .non (M.set j (.ins cG (gmF n s ws)))
abbrev d_Game_init (cG : Addr) : DS := (sSeq (sIf (dNot (dB (dCall sp_is_from [] (dCons (dV 1) (dCons (dI 2) (dCons (dI 12) dNil)))))) (sRaise0 "BadChildren") sNx) (sSeq (sIf (dNot (dB (dCall sp_is_from [] (dCons (dV 2) (dCons (dI 2) (dCons (dI 9) dNil)))))) (sRaise0 "BadParts") sNx) (sSeq (sIf (dOr (dNot (dB (dCB rdIsi (dCons (dV 3) (dCons (dC (.ty "tuple")) dNil))))) (dNot (dB (dCh rdLe rdLt (dI 1) (dCB rdLen (dCons (dV 3) dNil)) (dV 2))))) (sRaise1 "BadSteps" "index" (dC .non)) sNx) (sSeq (sFor (iEnT (dCons (dV 3) dNil)) (gT 2 (gsCons (gN 4) (gsCons (gN 5) gsNil))) (sIf (dOr (dNot (dB (dCall sp_is_from [] (dCons (dV 5) (dCons (dI 1) (dCons (dOp rdSub (dV 1) (dI 1)) dNil)))))) (dAnd (dB (dOp rdGt (dV 4) (dI 0))) (dB (dOp rdLe (dV 5) (dOp rdIx (dV 3) (dOp rdSub (dV 4) (dI 1))))))) (sRaise1 "BadSteps" "index" (dV 4)) sNx)) (sSeq (sPut cG "size" (dV 0) (dV 1)) (sSeq (sPut cG "share" (dV 0) (dV 2)) (sPut cG "ways" (dV 0) (dV 3))))))))
--  6 ['self', 'children', 'parts', 'steps', 'index', 'step']
theorem pure_Game_init (cG : Addr) : ∀ ys M X P, sp_Game_init cG ys M X P → d_Game_init cG (startD 6 ys) M (bodyN M.length X P) := by
  rintro ys M X P ⟨j, x, y, z, rfl, hj, hx, hy, hz, hzs, hE, hK⟩
  unfold d_Game_init
  walk_at "ev"
  refine ⟨x, 2, 12, rfl, hx, ?_⟩
  cases ex : isFrom x 2 12 with
  | false =>
    walk_at "ev"
    exact .same (hE _ (by unfold gameErr; rw [if_pos ex]))
  | true =>
  obtain ⟨n, rfl, hn2, hn12⟩ := isFrom_int ex
  walk_at "ev"
  refine ⟨y, 2, 9, rfl, hy, ?_⟩
  cases ey : isFrom y 2 9 with
  | false =>
    walk_at "ev"
    exact .same (hE _ (by unfold gameErr; rw [if_neg (by rw [ex]; decide), if_pos ey]))
  | true =>
  obtain ⟨s, rfl, hs2, hs9⟩ := isFrom_int ey
  walk_at "ev"
  refine ⟨hz, by decide, ?_⟩
  have h0 : ∀ e, (match z with
      | .tup ys => if 1 ≤ ys.length ∧ (ys.length : Int) < s then (firstBad n ys).map (fun (i : Nat) => (⟨"BadSteps", some ("index", .int (i : Int))⟩ : Exn)) else some ⟨"BadSteps", some ("index", .non)⟩
      | _ => some ⟨"BadSteps", some ("index", .non)⟩) = some e → X e M := fun e h => hE e (by
    unfold gameErr; rw [if_neg (by rw [ex]; decide), if_neg (by rw [ey]; decide)]; exact h)
  by_cases hzt : ∃ ys, z = .tup ys
  · obtain ⟨zs, rfl⟩ := hzt
    dsimp only at h0
    have e1 : isB (tyN (.tup zs) M) "tuple" = true := rfl
    rw [e1]
    walk_at "ev"
    by_cases h1 : (1 : Int) ≤ (zs.length : Int)
    rotate_left
    · rw [decide_eq_false h1]
      walk_at "ev"
      rw [if_neg (fun h => h1 (by omega))] at h0
      exact .same (h0 _ rfl)
    rw [decide_eq_true h1]
    walk_at "ev"
    by_cases h2 : (zs.length : Int) < s
    rotate_left
    · rw [decide_eq_false h2]
      walk_at "ev"
      rw [if_neg (fun h => h2 h.2)] at h0
      exact .same (h0 _ rfl)
    rw [decide_eq_true h2]
    walk_at "ev"
    rw [if_pos ⟨by omega, h2⟩] at h0
    refine for_inv (fun i g M' => M' = M ∧ (∃ a b, g = [some (.ptr j), some (.int n), some (.int s), some (.tup zs), a, b]) ∧ ∀ m, m < i → badAt n zs m = false) ⟨rfl, ⟨none, none, rfl⟩, fun m h => by omega⟩ ?_ ?_
    · rintro i y g1 M1 e ⟨rfl, ⟨a, b, rfl⟩, hbad⟩
      obtain ⟨d, ed, rfl⟩ := enumD_inv e
      have hi := (List.getElem?_eq_some_iff.mp ed).1
      walk_at "ev"
      refine ⟨d, 1, n - 1, rfl, hzs _ rfl d (List.mem_of_getElem? ed), ?_⟩
      cases ed1 : isFrom d 1 (n - 1) with
      | false =>
        walk_at "ev"
        refine .same (h0 _ ?_)
        unfold firstBad
        rw [find_lt hbad (by unfold badAt; rw [getD_of ed, ed1]; rfl) hi]
        rfl
      | true =>
      walk_at "ev"
      obtain ⟨w, rfl, hw1, hw2⟩ := isFrom_int ed1
      by_cases hi0 : i = 0
      · subst hi0
        rw [decide_eq_false (by decide : ¬ (0 : Int) < ((0 : Nat) : Int))]
        walk_at "ev"
        refine ⟨⟨_, rfl⟩, fun m hm => ?_⟩
        have : m = 0 := by omega
        subst this
        unfold badAt
        rw [getD_of ed, ed1]
        rfl
      · rw [decide_eq_true (by omega : (0 : Int) < (i : Int))]
        walk_at "ev"
        obtain ⟨k, rfl⟩ : ∃ k, i = k + 1 := ⟨i - 1, by omega⟩
        have e2 : zs[k]? = some zs[k] := List.getElem?_eq_getElem (by omega)
        have hk := hbad k (by omega)
        unfold badAt at hk
        rw [getD_of e2, Bool.or_eq_false_iff] at hk
        obtain ⟨v, hv, _⟩ := isFrom_int (by simpa using hk.1)
        refine ⟨.int v, ?_, v, rfl, ?_⟩
        · rw [show (((k + 1 : Nat) : Int) - 1) = (k : Int) by omega, atD_nat, e2, hv]
        have eb : badAt n zs (k + 1) = decide (w ≤ v) := by
          unfold badAt
          rw [getD_of ed, show k + 1 - 1 = k from rfl, getD_of e2, hv, ed1, decide_eq_true (by omega : 0 < k + 1)]
          show (!true || (true && decide (w ≤ v))) = _
          simp
        by_cases hwv : w ≤ v
        · rw [decide_eq_true hwv]
          walk_at "ev"
          refine .same (h0 _ ?_)
          unfold firstBad
          rw [find_lt hbad (by rw [eb]; exact decide_eq_true hwv) hi]
          rfl
        · rw [decide_eq_false hwv]
          walk_at "ev"
          refine ⟨⟨_, rfl⟩, fun m hm => ?_⟩
          by_cases hm2 : m = k + 1
          · subst hm2
            rw [eb]; exact decide_eq_false hwv
          · exact hbad m (by omega)
    · rintro g1 M1 ⟨rfl, ⟨a, b, rfl⟩, hbad⟩
      rw [enumD_len] at hbad
      have hlt : j < M1.length := (List.getElem?_eq_some_iff.mp hj).1
      walk_at "ev"
      have hg : gameErr (.int n) (.int s) (.tup zs) = none := by
        unfold gameErr
        rw [if_neg (by rw [ex]; decide), if_neg (by rw [ey]; decide)]
        show (if 1 ≤ zs.length ∧ (zs.length : Int) < s then (firstBad n zs).map _ else _) = none
        rw [if_pos ⟨by omega, h2⟩]
        have : firstBad n zs = none := find_none hbad
        rw [this]
        rfl
      obtain ⟨n', s', ws, hn', hs', hw', ok⟩ := gameErr_ok hg
      injection hn' with hn'
      injection hs' with hs'
      subst hn' hs'
      refine ⟨[], hj, by decide, ?_⟩
      simp only [List.getElem?_set_self hlt, List.set_set, Option.some.injEq, Cell.ins.injEq, true_and, exists_eq_left']
      refine ⟨by show 1 < 1000; omega, by show 2 < 1000; omega, ?_⟩
      rw [hw']
      exact .same (hK _ _ _ rfl rfl hw' ok)
  · have e1 : isB (tyN z M) "tuple" = false := by
      cases z with
      | tup zs => exact absurd ⟨zs, rfl⟩ hzt
      | ptr k =>
        unfold tyN
        dsimp only
        split <;> rfl
      | _ => rfl
    rw [e1]
    walk_at "ev"
    refine .same (h0 _ ?_)
    cases z with
    | tup zs => exact absurd ⟨zs, rfl⟩ hzt
    | _ => rfl
end Sw

/-! SwB: _law_equal, _law_game. -/
namespace Sw
open PySem PySem.Spec PyProof.Rows L2 PD
def rdGet (f : Str) (x : D) (k : D → Prop) : Prop := ∃ n s ws y, x = .gm n s ws ∧ (gmF n s ws).lookup f = some y ∧ k y
theorem dGet_eq (f : Str) (d : DE) (g : En) (M : MS) (X : EK) (k : D → MS → Prop) : dGet f d g M X k = d g M X fun x M1 => rdGet f x fun y => k y M1 := rfl
theorem rdGet_of {f : Str} {n s : Int} {ws : List Int} {y : D} (h : (gmF n s ws).lookup f = some y) (k : D → Prop) : rdGet f (.gm n s ws) k = k y := by
  refine propext ⟨?_, fun q => ⟨n, s, ws, y, rfl, h, q⟩⟩
  rintro ⟨n', s', ws', y', e, h', q⟩
  injection e with e1 e2 e3
  subst e1 e2 e3
  rw [h] at h'
  cases h'
  exact q
theorem rdGet_size (n s : Int) (ws : List Int) (k : D → Prop) : rdGet "size" (.gm n s ws) k = k (.int n) := rdGet_of rfl k
theorem rdGet_share (n s : Int) (ws : List Int) (k : D → Prop) : rdGet "share" (.gm n s ws) k = k (.int s) := rdGet_of rfl k
theorem rdGet_ways (n s : Int) (ws : List Int) (k : D → Prop) : rdGet "ways" (.gm n s ws) k = k (.tup (iL ws)) := rdGet_of rfl k
local macro_rules | `(tactic| walk_at "ev") => `(tactic| simp only [sSeq, sAsg, sRet, sRetN, sIf, sDrop, sNx, sPar, sPar3, gN, gT, gsCons, gsNil, dV, dC, dI, dOp, dUn, dCh, dB, dAnd, dOr, dNot, dAndV, dOrV, dNotV, dIf, dNil, dCons, dTup, dLst, dCB, dCall, dSetLen, sTry, hdlD, dkRun, dkCls, dI0, dI2, rdLen, rdIsi, rdIsiT, rdIx, dGet_eq, rdGet_size, rdGet_share, rdGet_ways,
  sFor_eq, dLc_eq, iTp, iLs, iSc, iR1, iR2, iEnT, iEnL, iEnS, wipeD_nil, wipeD_cons, sOpen, dShut, sBrk, sCnt, sNever, dNeg, dPart, dNoPart, dSl, sAug, sSetL, dApp, dPopAt, dNewL, dNewCat, dToRng, sPut, dMake, finG, sRaise0, sRaise1, sFrz, dNewRep, dNewList, dPop, dStar, dUn,
  rdEq_i, rdNe_i, sI_2, ixN_0, ixN_1, Cell.lst.injEq, rdInt_i, rdInt_b, rdAbs_i, rdMax2_i, eqD_int, eqOk_int, cellD_int, eqD_bl, eqOk_bl, cellD_bl, eqOk_non, seqOf_lst, seqOf_tup, lstOf_lst, atD_0, atD_1, atD_2, List.set_set, cellD_lst, cellD_tup, iL_cons, iL_nil, iL_len,
  startD, bodyN, List.map_cons, List.map_nil, List.length_cons, List.length_nil, List.replicate_succ, List.replicate_zero, List.cons_append, List.nil_append, List.append_nil, List.getElem?_cons_zero, List.getElem?_cons_succ, List.set_cons_zero, List.set_cons_succ, Nat.reduceSub, Nat.reduceAdd, Nat.zero_add,
  Option.some.injEq, exists_eq_left', exists_eq_left, D.int.injEq, D.bl.injEq, D.lst.injEq, D.tup.injEq, D.str.injEq, D.ptr.injEq, D.scr.injEq, D.gm.injEq, List.cons.injEq, and_true, true_and, exists_and_left, exists_and_right, D.ty.injEq, and_assoc, ↓reduceIte, eq_self, Bool.not_true, Bool.not_false, Bool.false_eq_true, decide_true, decide_false])
/-- plain data of a depth -/
inductive Pz : Nat → D → Prop
  | non (n : Nat) : Pz n .non
  | bl (n : Nat) (b : Bool) : Pz n (.bl b)
  | int (n : Nat) (i : Int) : Pz n (.int i)
  | str (n : Nat) (s : Str) : PyData.strOk s = true → Pz n (.str s)
  | lst (n : Nat) (xs : List D) : (∀ x ∈ xs, Pz n x) → xs.length < 16777216 → Pz (n + 1) (.lst xs)
  | tup (n : Nat) (xs : List D) : (∀ x ∈ xs, Pz n x) → xs.length < 16777216 → Pz (n + 1) (.tup xs)
theorem Pz.tyl {n : Nat} {x : D} (h : Pz n x) (M : MS) : tyN x M ∈ tyL := by cases h <;> simp [tyN, tyL]
theorem Pz.cln {n : Nat} {x : D} (h : Pz n x) : Cln x := by
  induction h with
  | non => exact .non
  | bl _ b => exact .bl b
  | int _ b => exact .int b
  | str _ b => exact .str b
  | lst _ xs _ _ ih => exact .lst ih
  | tup _ xs _ _ ih => exact .tup ih
theorem Pz.pl {n : Nat} {x : D} (h : Pz n x) : Pl n x := by
  induction h with
  | non n => exact .non n
  | bl n b => exact .bl n b
  | int n b => exact .int n b
  | str n b hb => exact .str n b hb
  | lst n xs _ _ ih => exact .lst n xs ih
  | tup n xs _ _ ih => exact .tup n xs ih
theorem plMono {n m : Nat} {x : D} (h : Pl n x) (l : n ≤ m) : Pl m x := by
  induction h generalizing m with
  | non n => exact .non m
  | bl n b => exact .bl m b
  | int n b => exact .int m b
  | str n b hb => exact .str m b hb
  | lst n xs _ ih => obtain ⟨k, rfl⟩ : ∃ k, m = k + 1 := ⟨m - 1, by omega⟩; exact .lst k xs fun x hx => ih x hx (by omega)
  | tup n xs _ ih => obtain ⟨k, rfl⟩ : ∃ k, m = k + 1 := ⟨m - 1, by omega⟩; exact .tup k xs fun x hx => ih x hx (by omega)
theorem Pz.mono {n m : Nat} {x : D} (h : Pz n x) (l : n ≤ m) : Pz m x := by
  induction h generalizing m with
  | non n => exact .non m
  | bl n b => exact .bl m b
  | int n b => exact .int m b
  | str n b hb => exact .str m b hb
  | lst n xs _ hl ih => obtain ⟨k, rfl⟩ : ∃ k, m = k + 1 := ⟨m - 1, by omega⟩; exact .lst k xs (fun x hx => ih x hx (by omega)) hl
  | tup n xs _ hl ih => obtain ⟨k, rfl⟩ : ∃ k, m = k + 1 := ⟨m - 1, by omega⟩; exact .tup k xs (fun x hx => ih x hx (by omega)) hl
theorem Pz.iL {l : List Int} (n : Nat) : ∀ x ∈ PD.iL l, Pz n x := fun x h => by
  obtain ⟨i, _, rfl⟩ := List.mem_map.mp h
  exact .int n i
theorem Pz.tL {l : List Int} (n : Nat) (h : l.length < 16777216) : Pz (n + 1) (.tup (PD.iL l)) := .tup n _ (Pz.iL n) (by rw [iL_len]; exact h)
theorem Pz.lL {l : List Int} (n : Nat) (h : l.length < 16777216) : Pz (n + 1) (.lst (PD.iL l)) := .lst n _ (Pz.iL n) (by rw [iL_len]; exact h)
theorem eqOkOf {M : MS} {n : Nat} {x : D} (h : Pl n x) (l : n ≤ 30) : EqOk M x := by
  cases h with
  | non => exact ⟨.non _, fun j e => nomatch e⟩
  | bl _ b => exact ⟨.bl _ b, fun j e => nomatch e⟩
  | int _ b => exact ⟨.int _ b, fun j e => nomatch e⟩
  | str _ b hb => exact ⟨.str _ b hb, fun j e => nomatch e⟩
  | lst n xs h => exact ⟨plMono (Pl.lst n xs h) l, fun j e => nomatch e⟩
  | tup n xs h => exact ⟨plMono (Pl.tup n xs h) l, fun j e => nomatch e⟩
theorem Pz.cell {n : Nat} {x : D} (h : Pz n x) (M : MS) : cellD M x = x := by cases h <;> rfl
/-- data equality of plain data: for tuples of ints -/
theorem eqD_iL : ∀ (a b : List Int), PyData.eqvAll (D.pys (PD.iL a)) (D.pys (PD.iL b)) = decide (a = b)
  | [], [] => rfl
  | [], _ :: _ => rfl
  | _ :: _, [] => rfl
  | x :: a, y :: b => by
    show (PyData.eqv (.int x) (.int y) && PyData.eqvAll (D.pys (PD.iL a)) (D.pys (PD.iL b))) = _
    rw [eqD_iL a b, show PyData.eqv (.int x) (.int y) = decide (x = y) from eqD_int x y]
    by_cases h1 : x = y <;> by_cases h2 : a = b <;> simp [h1, h2]
theorem eqD_tL (a b : List Int) : eqD (.tup (PD.iL a)) (.tup (PD.iL b)) = decide (a = b) := eqD_iL a b
theorem eqD_lL (a b : List Int) : eqD (.lst (PD.iL a)) (.lst (PD.iL b)) = decide (a = b) := eqD_iL a b
theorem rdEq_t (a b : List Int) (M : MS) (k : D → Prop) (h : k (.bl (decide (a = b)))) : rdEq (.tup (PD.iL a)) (.tup (PD.iL b)) M k := by
  refine ⟨eqOkOf (n := 1) (.tup 0 _ fun x hx => (Pz.iL 0 x hx).pl) (by decide), eqOkOf (n := 1) (.tup 0 _ fun x hx => (Pz.iL 0 x hx).pl) (by decide), ?_⟩
  rw [cellD_tup, cellD_tup, eqD_tL]
  exact h
theorem rdNe_t (a b : List Int) (M : MS) (k : D → Prop) (h : k (.bl (!decide (a = b)))) : rdNe (.tup (PD.iL a)) (.tup (PD.iL b)) M k := by
  refine ⟨eqOkOf (n := 1) (.tup 0 _ fun x hx => (Pz.iL 0 x hx).pl) (by decide), eqOkOf (n := 1) (.tup 0 _ fun x hx => (Pz.iL 0 x hx).pl) (by decide), ?_⟩
  rw [cellD_tup, cellD_tup, eqD_tL]
  exact h
theorem rdNe_b (a b : Bool) (M : MS) (k : D → Prop) : rdNe (.bl a) (.bl b) M k = k (.bl (!decide (a = b))) := by
  unfold rdNe
  rw [eqOk_bl, eqOk_bl, cellD_bl, cellD_bl, eqD_bl, true_and, true_and]
theorem rdEq_b (a b : Bool) (M : MS) (k : D → Prop) : rdEq (.bl a) (.bl b) M k = k (.bl (decide (a = b))) := by
  unfold rdEq
  rw [eqOk_bl, eqOk_bl, cellD_bl, cellD_bl, eqD_bl, true_and, true_and]
theorem rdIs_n (x : D) (M : MS) (k : D → Prop) : rdIs x .non M k = k (.bl x.isN) := by simp [rdIs]
theorem rdEq_z {n : Nat} {x y : D} (hx : Pz n x) (hy : Pz n y) (hn : n ≤ 30) (M : MS) (k : D → Prop) : rdEq x y M k = k (.bl (eqD x y)) := by
  unfold rdEq
  rw [eq_true (eqOkOf (M := M) hx.pl hn), eq_true (eqOkOf (M := M) hy.pl hn), hx.cell, hy.cell, true_and, true_and]
theorem eqD_str (a b : Str) : eqD (.str a) (.str b) = decide (a = b) := by
  show (a == b) = _
  by_cases h : a = b
  · rw [decide_eq_true h]; exact beq_iff_eq.mpr h
  · rw [decide_eq_false h]; exact beq_false_of_ne h
abbrev sp_law_equal (n : Nat) : DSp := fun xs M X k => ∃ x y, xs = [x, y] ∧ Pz n x ∧ Pz n y ∧ (∀ c ∈ M, ClnC c) ∧ ∀ b : Bool, (b = true ↔ x = y) → k (.bl b) M
abbrev d_law_equal (sp : DSp) : DS := (sSeq (sIf (dB (dOp rdIs (dV 1) (dC .non))) (sRet (dOp rdIs (dV 0) (dC .non))) sNx) (sSeq (sIf (dB (dCB rdIsi (dCons (dV 1) (dCons (dC (.ty "bool")) dNil)))) (sRet (dAndV (dCB rdIsi (dCons (dV 0) (dCons (dC (.ty "bool")) dNil))) (dOp rdEq (dV 0) (dV 1)))) sNx) (sSeq (sIf (dB (dCB rdIsi (dCons (dV 1) (dCons (dC (.ty "int")) dNil)))) (sRet (dAndV (dCB rdIsi (dCons (dV 0) (dCons (dC (.ty "int")) dNil))) (dAndV (dNotV (dCB rdIsi (dCons (dV 0) (dCons (dC (.ty "bool")) dNil)))) (dOp rdEq (dV 0) (dV 1))))) sNx) (sSeq (sIf (dB (dCB rdIsi (dCons (dV 1) (dCons (dC (.ty "str")) dNil)))) (sRet (dAndV (dCB rdIsi (dCons (dV 0) (dCons (dC (.ty "str")) dNil))) (dOp rdEq (dV 0) (dV 1)))) sNx) (sSeq (sIf (dB (dCB rdIsi (dCons (dV 1) (dCons (dC (.ty "dict")) dNil)))) (sSeq sNever sNever) sNx) (sSeq (sIf (dB (dOp rdNe (dCB rdIsi (dCons (dV 1) (dCons (dC (.ty "tuple")) dNil))) (dCB rdIsi (dCons (dV 0) (dCons (dC (.ty "tuple")) dNil))))) (sRet (dC (.bl false))) sNx) (sSeq (sIf (dB (dOp rdNe (dCB rdIsi (dCons (dV 1) (dCons (dC (.ty "list")) dNil))) (dCB rdIsi (dCons (dV 0) (dCons (dC (.ty "list")) dNil))))) (sRet (dC (.bl false))) sNx) (sSeq (sIf (dB (dOp rdNe (dCB rdLen (dCons (dV 0) dNil)) (dCB rdLen (dCons (dV 1) dNil)))) (sRet (dC (.bl false))) sNx) (sRet (dCB rdAll (dCons (dLc (iR1 (dCons (dCB rdLen (dCons (dV 1) dNil)) dNil)) (gN 3) dYes (dCall sp [] (dCons (dOp rdIx (dV 0) (dV 3)) (dCons (dOp rdIx (dV 1) (dV 3)) dNil))) [3]) dNil)))))))))))
/-- both are told of by their types -/
theorem rng_get (n : Nat) (i : Nat) (y : D) (h : (iL (rngL 0 n))[i]? = some y) : i < n ∧ y = .int (i : Int) := by
  unfold rngL at h
  rw [iL_get, List.getElem?_map] at h
  cases e : (List.range n)[i]? with
  | none => rw [e] at h; cases h
  | some j =>
    rw [e] at h
    have hi := (List.getElem?_eq_some_iff.mp e).1
    rw [List.length_range] at hi
    rw [List.getElem?_range hi] at e
    cases e
    refine ⟨hi, ?_⟩
    have h' : D.int (0 + (i : Int)) = y := by simpa using h
    rw [← h', Int.zero_add]
theorem rng_len (n : Nat) : (iL (rngL 0 n)).length = n := by rw [iL_len]; unfold rngL; rw [List.length_map, List.length_range]
def boolD : D → Bool
  | .bl b => b
  | _ => false
theorem law_equal_lc {sp : DSp} {m : Nat} (hsp : ∀ xs M X k, sp_law_equal m xs M X k → sp xs M X k) {x y : D} {xs ys : List D} (sx : ∀ M, seqOf x M = some xs) (sy : ∀ M, seqOf y M = some ys) (hlen : xs.length = ys.length) (hl : ys.length < 16777216) (hxs : ∀ d ∈ xs, Pz m d) (hys : ∀ d ∈ ys, Pz m d)
    {M : MS} (hM : ∀ c ∈ M, ClnC c) {X : EK} {P : D → MS → Prop} (fin : ∀ b : Bool, (b = true ↔ xs = ys) → P (.bl b) M) :
    LcB [some x, some y, none, none] [3] (gN 3) dYes (dCall sp [] (dCons (dOp rdIx (dV 0) (dV 3)) (dCons (dOp rdIx (dV 1) (dV 3)) dNil))) X (fun x M1 => rdAll [x] M1 fun z => P z M1) (iL (rngL 0 ys.length)) M := by
  refine lc_all (fun y z => ∃ (b : Bool) (i : Nat), y = .int (i : Int) ∧ z = .bl b ∧ ∀ d e, xs[i]? = some d → ys[i]? = some e → (b = true ↔ d = e)) hM (by rw [rng_len, sizeLine_val]; exact hl) (fun y z ⟨b, i, _, e, _⟩ => e ▸ .bl b) ?_ ?_
  · intro v hv acc hacc Q hQ
    obtain ⟨i, hi⟩ := List.mem_iff_getElem?.mp hv
    obtain ⟨hin, rfl⟩ := rng_get _ _ _ hi
    walk_at "ev"
    have ex : xs[i]? = some xs[i] := List.getElem?_eq_getElem (by omega)
    have ey : ys[i]? = some ys[i] := List.getElem?_eq_getElem (by omega)
    refine ⟨xs, sx _, xs[i], by rw [atD_nat, ex], ys, sy _, ys[i], by rw [atD_nat, ey], ?_⟩
    refine hsp _ _ _ _ ⟨_, _, rfl, hxs _ (List.getElem_mem _), hys _ (List.getElem_mem _), clnC_app hM ?_, fun b hb => hQ _ ⟨b, i, rfl, rfl, fun d e hd he => ?_⟩⟩
    · exact hacc
    · rw [ex] at hd; rw [ey] at he; cases hd; cases he; exact hb
  · intro zs hz hR
    rw [rng_len] at hz
    have hb : ∀ i (h : i < zs.length), ∃ b : Bool, zs[i] = .bl b ∧ ∀ d e, xs[i]? = some d → ys[i]? = some e → (b = true ↔ d = e) := fun i h => by
      have e1 : (iL (rngL 0 ys.length))[i]? = some (.int (i : Int)) := by
        have e2 : (iL (rngL 0 ys.length))[i]? = some ((iL (rngL 0 ys.length))[i]'(by rw [rng_len]; omega)) := List.getElem?_eq_getElem _
        rw [e2, (rng_get _ _ _ e2).2]
      obtain ⟨b, j, e2, e3, e4⟩ := hR i _ _ e1 (List.getElem?_eq_getElem h)
      injection e2 with e2
      have : j = i := by omega
      subst this
      exact ⟨b, e3, e4⟩
    refine ⟨_, zs.map boolD, rfl, ?_, fin _ ?_⟩
    · rw [lstOf_lst, List.map_map]
      congr 1
      refine List.ext_getElem? fun i => ?_
      rw [List.getElem?_map]
      by_cases h : i < zs.length
      · obtain ⟨b, e, _⟩ := hb i h
        rw [List.getElem?_eq_getElem h, e]
        rfl
      · rw [List.getElem?_eq_none (by omega)]; rfl
    · rw [List.all_eq_true]
      constructor
      · intro h
        refine List.ext_getElem? fun i => ?_
        by_cases hi : i < zs.length
        · obtain ⟨b, e, e4⟩ := hb i hi
          have h2 := h b (List.mem_map.mpr ⟨_, List.getElem_mem hi, by rw [e]; rfl⟩)
          rw [List.getElem?_eq_getElem (by omega), List.getElem?_eq_getElem (by omega)]
          rw [(e4 _ _ (List.getElem?_eq_getElem (by omega)) (List.getElem?_eq_getElem (by omega))).mp h2]
        · rw [List.getElem?_eq_none (by omega), List.getElem?_eq_none (by omega)]
      · rintro rfl b hbm
        obtain ⟨d, hd, rfl⟩ := List.mem_map.mp hbm
        obtain ⟨i, hi, rfl⟩ := List.mem_iff_getElem.mp hd
        obtain ⟨b, e, e4⟩ := hb i hi
        rw [e]
        exact (e4 _ _ (List.getElem?_eq_getElem (by omega)) (List.getElem?_eq_getElem (by omega))).mpr rfl
theorem pure_law_equal (sp : DSp) (n : Nat) (hn : n ≤ 30) (hsp : ∀ xs M X k, (∃ m, n = m + 1 ∧ sp_law_equal m xs M X k) → sp xs M X k) : ∀ ys M X P, sp_law_equal n ys M X P → d_law_equal sp (startD 4 ys) M (bodyN M.length X P) := by
  rintro ys M X P ⟨x, y, rfl, hx, hy, hM, q⟩
  have tx := hx.tyl M
  have ty := hy.tyl M
  have fin : ∀ b : Bool, (b = true ↔ x = y) → Ret P M.length (.bl b) M := fun b h => .same (q b h)
  have E := rdEq_z hx hy hn M
  unfold d_law_equal
  walk_at "ev"
  rw [rdIs_n]
  cases hy with
  | non =>
    cases hx <;> (simp [rdIs_n, D.isN]; exact fin _ (by simp))
  | bl _ b =>
    cases hx <;> (simp [rdIs_n, D.isN, tyN, isB, tyL, E, eqD_bl]; exact fin _ (by simp))
  | int _ b =>
    cases hx <;> (simp [rdIs_n, D.isN, tyN, isB, tyL, E, eqD_int]; exact fin _ (by simp))
  | str _ b hb =>
    cases hx <;> (simp [rdIs_n, D.isN, tyN, isB, tyL, E, eqD_str]; exact fin _ (by simp))
  | lst m ys hys hl =>
    cases hx with
    | lst _ xs hxs hl2 =>
      simp [rdIs_n, D.isN, tyN, isB, tyL, rdNe_b, eqOk_bl, cellD_bl, eqD_bl, seqOf_lst]
      have fin2 : ∀ b : Bool, (b = true ↔ xs = ys) → Ret P M.length (.bl b) M := fun b h => fin b (by rw [h]; simp)
      by_cases h : (xs.length : Int) = (ys.length : Int)
      · rw [if_pos h]
        exact ⟨by omega, law_equal_lc (fun _ _ _ _ h => hsp _ _ _ _ ⟨m, rfl, h⟩) (fun _ => rfl) (fun _ => rfl) (by omega) hl hxs hys hM fin2⟩
      · rw [if_neg h]
        exact fin2 false ⟨fun e => (nomatch e), fun e => absurd (congrArg (fun l : List D => (l.length : Int)) e) h⟩
    | _ => simp [rdIs_n, D.isN, tyN, isB, tyL, rdNe_b, eqOk_bl, cellD_bl, eqD_bl]; exact fin false (by simp)
  | tup m ys hys hl =>
    cases hx with
    | tup _ xs hxs hl2 =>
      simp [rdIs_n, D.isN, tyN, isB, tyL, rdNe_b, eqOk_bl, cellD_bl, eqD_bl, seqOf_tup]
      have fin2 : ∀ b : Bool, (b = true ↔ xs = ys) → Ret P M.length (.bl b) M := fun b h => fin b (by rw [h]; simp)
      by_cases h : (xs.length : Int) = (ys.length : Int)
      · rw [if_pos h]
        exact ⟨by omega, law_equal_lc (fun _ _ _ _ h => hsp _ _ _ _ ⟨m, rfl, h⟩) (fun _ => rfl) (fun _ => rfl) (by omega) hl hxs hys hM fin2⟩
      · rw [if_neg h]
        exact fin2 false ⟨fun e => (nomatch e), fun e => absurd (congrArg (fun l : List D => (l.length : Int)) e) h⟩
    | _ => simp [rdIs_n, D.isN, tyN, isB, tyL, rdNe_b, eqOk_bl, cellD_bl, eqD_bl]; exact fin false (by simp)
abbrev spEq : DSp := sp_law_equal 4
/-! ### _law_game -/
theorem rng_get2 (lo : Int) (n : Nat) (i : Nat) (y : D) (h : (iL (rngL lo n))[i]? = some y) : i < n ∧ y = .int (lo + (i : Int)) := by
  unfold rngL at h
  rw [iL_get, List.getElem?_map] at h
  cases e : (List.range n)[i]? with
  | none => rw [e] at h; cases h
  | some j =>
    rw [e] at h
    have hi := (List.getElem?_eq_some_iff.mp e).1
    rw [List.length_range] at hi
    rw [List.getElem?_range hi] at e
    cases e
    exact ⟨hi, by simpa using h.symm⟩
theorem rng_len2 (lo : Int) (n : Nat) : (iL (rngL lo n)).length = n := by rw [iL_len]; unfold rngL; rw [List.length_map, List.length_range]
theorem rdEq_l (a b : List Int) (M : MS) (k : D → Prop) (h : k (.bl (decide (a = b)))) : rdEq (.lst (PD.iL a)) (.lst (PD.iL b)) M k := by
  refine ⟨eqOkOf (n := 1) (.lst 0 _ fun x hx => (Pz.iL 0 x hx).pl) (by decide), eqOkOf (n := 1) (.lst 0 _ fun x hx => (Pz.iL 0 x hx).pl) (by decide), ?_⟩
  rw [cellD_lst, cellD_lst, eqD_lL]
  exact h
theorem last_get {M : MS} {c : Cell} : (M ++ [c])[M.length]? = some c := by
  rw [List.getElem?_append_right (Nat.le_refl _), Nat.sub_self]; rfl
theorem last_set {M : MS} {c d : Cell} : (M ++ [c]).set M.length d = M ++ [d] := by
  rw [List.set_append_right _ _ (Nat.le_refl _), Nat.sub_self]; rfl
theorem iL_app (a b : List Int) : iL a ++ iL b = iL (a ++ b) := by unfold iL; rw [List.map_append]
abbrev sp_law_game (cG : Addr) : DSp := fun xs M X k => ∃ j m, xs = [.ptr j, .int m] ∧ M[j]? = some .rng ∧ 3 ≤ m ∧ m ≤ 12 ∧ (∀ c ∈ M, ClnC c) ∧ ∀ n s ws, GOk n s ws → n ≤ m → k (.gm n s ws) M
abbrev d_law_game (cG : Addr) : DS := (sSeq (sPar 2 3 (dCons (dOp rdAdd (dI 2) (dCall sp_law_below [] (dCons (dV 0) (dCons (dOp rdSub (dV 1) (dI 1)) dNil)))) (dCons (dOp rdAdd (dI 2) (dCall sp_law_below [] (dCons (dV 0) (dCons (dCall sp_law_pick [] (dCons (dV 0) (dCons (dLst (dCons (dI 2) (dCons (dI 4) (dCons (dI 8) dNil)))) dNil))) dNil)))) dNil))) (sSeq (sAsg (dNewL dNil) (gN 4)) (sSeq (sFor (iR2 (dCons (dI 1) (dCons (dV 2) dNil))) (gN 5) (sIf (dAnd (dB (dOp rdLt (dCB rdLen (dCons (dV 4) dNil)) (dOp rdSub (dV 3) (dI 1)))) (dB (dOp rdEq (dCall sp_law_below [] (dCons (dV 0) (dCons (dI 3) dNil))) (dI 0)))) (sDrop (dApp (dV 4) (dV 5))) sNx)) (sSeq (sFrz 4 (sIf (dB (dOp rdEq (dV 4) (dLst dNil))) (sAsg (dLst (dCons (dOp rdAdd (dI 1) (dCall sp_law_below [] (dCons (dV 0) (dCons (dOp rdSub (dV 2) (dI 1)) dNil)))) dNil)) (gN 4)) sNx)) (sRet (dMake cG (sp_Game_init cG) (dCons (dV 2) (dCons (dV 3) (dCons (dCB rdTup (dCons (dV 4) dNil)) dNil))) (finG cG)))))))
--  6 ['_law_d', '_law_most', '_law_children_so', '_law_parts_so', '_law_steps_so', '_law_step']
theorem pure_law_game (cG : Addr) : ∀ ys M X P, sp_law_game cG ys M X P → d_law_game cG (startD 6 ys) M (bodyN M.length X P) := by
  rintro ys M X P ⟨j, m, rfl, hj, hm3, hm12, hM, q⟩
  have hlt : j < M.length := (List.getElem?_eq_some_iff.mp hj).1
  unfold d_law_game
  walk_at "ev"
  refine ⟨j, m - 1, rfl, hj, by omega, by omega, fun r hr0 hr1 => ?_⟩
  walk_at "ev"
  refine ⟨by decide, j, _, [.int 2, .int 4, .int 8], rfl, rfl, hj, by simp, by decide, fun y hy => ?_⟩
  have hy2 : ∃ c, y = .int c ∧ 2 ≤ c ∧ c ≤ 8 := by
    simp at hy
    rcases hy with rfl | rfl | rfl
    · exact ⟨2, rfl, by decide⟩
    · exact ⟨4, rfl, by decide⟩
    · exact ⟨8, rfl, by decide⟩
  obtain ⟨c, rfl, hc2, hc8⟩ := hy2
  refine ⟨j, c, rfl, hj, by omega, by omega, fun t ht0 ht1 => ?_⟩
  walk_at "ev"
  refine ⟨by decide, by decide, by decide, by omega, by omega, ?_⟩
  -- the loop
  refine for_inv (fun i g1 M1 => ∃ ws a, g1 = [some (.ptr j), some (.int m), some (.int (2 + r)), some (.int (2 + t)), some (.ptr M.length), a] ∧ M1 = M ++ [.lst (iL ws)] ∧ (ws.length : Int) ≤ 1 + t ∧ (∀ w ∈ ws, 1 ≤ w ∧ w ≤ (i : Int)) ∧ ∀ (i : Nat) (a b : Int), ws[i]? = some a → ws[i + 1]? = some b → a < b)
    ⟨[], none, rfl, rfl, by simp; omega, by simp, by simp⟩ ?_ ?_
  · rintro i y g1 M1 e ⟨ws, a, rfl, rfl, h1, h2, h3⟩
    obtain ⟨hi, rfl⟩ := rng_get2 _ _ _ _ e
    walk_at "ev"
    refine ⟨_, seqOf_ptr last_get, ?_⟩
    walk_at "ev"
    have step : ∃ ws' : List Int, M ++ [Cell.lst (iL ws)] = M ++ [.lst (iL ws')] ∧ (ws'.length : Int) ≤ 1 + t ∧ (∀ w ∈ ws', 1 ≤ w ∧ w ≤ ((i + 1 : Nat) : Int)) ∧ ∀ (i : Nat) (a b : Int), ws'[i]? = some a → ws'[i + 1]? = some b → a < b :=
      ⟨ws, rfl, h1, fun w hw => ⟨(h2 w hw).1, by have := (h2 w hw).2; omega⟩, h3⟩
    by_cases hl : (ws.length : Int) < 2 + t - 1
    · rw [decide_eq_true hl]
      walk_at "ev"
      refine ⟨j, 3, rfl, get_app hj, by decide, by decide, fun z hz0 hz3 => ?_⟩
      walk_at "ev"
      by_cases hz : z = 0
      · rw [decide_eq_true hz]
        walk_at "ev"
        refine ⟨⟨_, last_get⟩, _, last_get, by rw [iL_len, sizeLine_val]; omega, ws ++ [1 + (i : Int)], by rw [last_set, ← iL_app]; rfl, by rw [List.length_append, List.length_singleton]; omega, ?_, ?_⟩
        · intro w hw
          rcases List.mem_append.mp hw with q | q
          · have := h2 w q; omega
          · rw [List.mem_singleton] at q; omega
        · intro k a b ea eb
          by_cases hk : k + 1 < ws.length
          · rw [List.getElem?_append_left (by omega)] at ea
            rw [List.getElem?_append_left hk] at eb
            exact h3 k a b ea eb
          · have hk2 := (List.getElem?_eq_some_iff.mp eb).1
            rw [List.length_append, List.length_singleton] at hk2
            rw [List.getElem?_append_right (by omega), show k + 1 - ws.length = 0 by omega] at eb
            rw [List.getElem?_append_left (by omega)] at ea
            have := h2 a (List.mem_of_getElem? ea)
            simp at eb
            omega
      · rw [decide_eq_false hz]
        walk_at "ev"
        exact step
    · rw [decide_eq_false hl]
      walk_at "ev"
      exact step
  · rintro g1 M1 ⟨ws, a, rfl, rfl, h1, h2, h3⟩
    rw [rng_len2] at h2
    walk_at "ev"
    refine ⟨_, last_get, ?_⟩
    rw [last_set]
    refine ⟨by decide, rdEq_l ws [] _ _ ?_⟩
    walk_at "ev"
    have fin : ∀ ws' : List Int, GOk (2 + r) (2 + t) ws' → sp_Game_init cG [D.ptr (M ++ [Cell.dead]).length, .int (2 + r), .int (2 + t), .tup (iL ws')] (M ++ [Cell.dead] ++ [Cell.ins cG []])
        (fun e M2 => (∃ x, M2 = M ++ [Cell.dead] ++ [Cell.ins cG x]) ∧ (∀ (c : Cell), c ∈ M ++ [Cell.dead] → ClnC c) ∧ (∀ (f : Str) (y : D), e.fld = some (f, y) → Cln y) ∧ RetX X (List.length M) e (M ++ [Cell.dead]))
        (fun y M2 => y = D.non ∧ ∃ n s ws, M2 = M ++ [Cell.dead] ++ [Cell.ins cG (gmF n s ws)] ∧ (∀ (c : Cell), c ∈ M ++ [Cell.dead] → ClnC c) ∧ Ret P (List.length M) (D.gm n s ws) (M ++ [Cell.dead])) := fun ws' ok => by
      have hM2 : ∀ c ∈ M ++ [Cell.dead], ClnC c := clnC_app hM trivial
      refine ⟨_, _, _, _, rfl, last_get, by simp [tyN, tyL], by simp [tyN, tyL], by simp [tyN, tyL], fun ys e d hd => ?_, fun e he => ?_, fun n s ws2 e1 e2 e3 ok2 => ?_⟩
      · injection e with e; subst e
        obtain ⟨i, _, rfl⟩ := List.mem_map.mp hd
        simp [tyN, tyL]
      · rw [gameErr_none ok] at he; cases he
      · injection e1 with e1; injection e2 with e2; injection e3 with e3
        have e3 := iL_inj e3
        subst e1 e2 e3
        refine ⟨rfl, _, _, _, last_set, hM2, .drop rfl (Nat.le_refl _) hM (.gm _ _ _) (q _ _ _ ok2 (by omega))⟩
    by_cases hws : ws = []
    · subst hws
      walk_at "ev"
      refine ⟨j, _, rfl, get_app hj, by omega, by omega, fun z hz0 hz1 => ?_⟩
      walk_at "ev"
      refine ⟨by decide, _, _, rfl, rfl, fin [1 + z] ⟨by omega, by omega, by omega, by omega, by simp, by simp; omega, fun w hw => ?_, fun i a b ea eb => ?_⟩⟩
      · simp at hw; omega
      · simp at eb
    · rw [decide_eq_false hws]
      walk_at "ev"
      refine ⟨_, _, rfl, rfl, fin ws ⟨by omega, by omega, by omega, by omega, ?_, by omega, fun w hw => ?_, h3⟩⟩
      · have := List.length_pos_iff.mpr hws; omega
      · have := h2 w hw; omega
end Sw

namespace Sw
open PySem PySem.Spec PyProof.Rows L2 PD
local macro_rules | `(tactic| walk_at "ev") => `(tactic| simp only [sSeq, sAsg, sRet, sRetN, sIf, sDrop, sNx, sPar, sPar3, gN, gT, gsCons, gsNil, dV, dC, dI, dOp, dUn, dCh, dB, dAnd, dOr, dNot, dAndV, dOrV, dNotV, dIf, dNil, dCons, dTup, dLst, dCB, dCall, dSetLen, sTry, hdlD, dkRun, dkCls, dI0, dI2, rdLen, rdIsi, rdIsiT, rdIx, dGet_eq, rdGet_size, rdGet_share, rdGet_ways,
  sFor_eq, dLc_eq, iTp, iLs, iSc, iR1, iR2, iEnT, iEnL, iEnS, wipeD_nil, wipeD_cons, sOpen, dShut, sBrk, sCnt, sNever, dNeg, dPart, dNoPart, dSl, sAug, sSetL, dApp, dPopAt, dNewL, dNewCat, dToRng, sPut, dMake, finG, sRaise0, sRaise1, sFrz, dNewRep, dNewList, dPop, dStar, dUn,
  rdEq_i, rdNe_i, sI_2, ixN_0, ixN_1, Cell.lst.injEq, rdInt_i, rdInt_b, rdAbs_i, rdMax2_i, eqD_int, eqOk_int, cellD_int, eqD_bl, eqOk_bl, cellD_bl, eqOk_non, seqOf_lst, seqOf_tup, lstOf_lst, atD_0, atD_1, atD_2, List.set_set, cellD_lst, cellD_tup, iL_cons, iL_nil, iL_len,
  startD, bodyN, List.map_cons, List.map_nil, List.length_cons, List.length_nil, List.replicate_succ, List.replicate_zero, List.cons_append, List.nil_append, List.append_nil, List.getElem?_cons_zero, List.getElem?_cons_succ, List.set_cons_zero, List.set_cons_succ, Nat.reduceSub, Nat.reduceAdd, Nat.zero_add,
  Option.some.injEq, exists_eq_left', exists_eq_left, D.int.injEq, D.bl.injEq, D.lst.injEq, D.tup.injEq, D.str.injEq, D.ptr.injEq, D.scr.injEq, D.gm.injEq, List.cons.injEq, and_true, true_and, exists_and_left, exists_and_right, D.ty.injEq, and_assoc, ↓reduceIte, eq_self, Bool.not_true, Bool.not_false, Bool.false_eq_true, decide_true, decide_false])
/-! SwC: the rounds. -/
def SwOk (n : Int) (l : List Int) : Prop := (l.length : Int) = n ∧ ∀ x ∈ l, 0 ≤ x ∧ x ≤ 10 ^ 30
def firstBadS (ys : List D) : Option Nat := (List.range ys.length).find? fun i => !isFrom (ys.getD i .non) 0 1000000000000000000000000000000
def sweetsErr (n : Int) (x : D) : Option Exn := match x with
  | .tup ys => if (ys.length : Int) = n then (firstBadS ys).map (fun (i : Nat) => (⟨"BadSweets", some ("index", .int (i : Int))⟩ : Exn)) else some ⟨"BadSweets", some ("index", .non)⟩
  | _ => some ⟨"BadSweets", some ("index", .non)⟩
theorem sweetsErr_none {n : Int} {l : List Int} (h : SwOk n l) : sweetsErr n (.tup (iL l)) = none := by
  unfold sweetsErr
  dsimp only
  rw [if_pos (by rw [iL_len]; exact h.1)]
  have : firstBadS (iL l) = none := find_none fun j hj => by
    rw [iL_len] at hj
    have e : (iL l)[j]? = some (.int l[j]) := by rw [iL_get, List.getElem?_eq_getElem hj]; rfl
    have h1 : isFrom (.int l[j]) 0 1000000000000000000000000000000 = true := isFrom_i (h.2 _ (List.getElem_mem hj))
    rw [getD_of e, h1]
    rfl
  rw [this]
  rfl
theorem sweetsErr_ok {n : Int} {x : D} (h : sweetsErr n x = none) : ∃ l, x = .tup (iL l) ∧ SwOk n l := by
  unfold sweetsErr at h
  split at h
  · rename_i ys
    split at h
    · rename_i h1
      have hb : ∀ j, j < ys.length → isFrom (ys.getD j .non) 0 1000000000000000000000000000000 = true := by
        have : firstBadS ys = none := by
          cases e : firstBadS ys with
          | none => rfl
          | some i => exfalso; rw [e] at h; cases h
        unfold firstBadS at this
        rw [List.find?_range_eq_none] at this
        intro j hj
        simpa using this j hj
      have hint : ∀ (j : Nat) (d : D), ys[j]? = some d → ∃ i, d = .int i ∧ 0 ≤ i ∧ i ≤ 1000000000000000000000000000000 := fun j d e => by
        have := hb j (List.getElem?_eq_some_iff.mp e).1
        rw [getD_of e] at this
        exact isFrom_int this
      refine ⟨ys.map intD, ?_, by rw [List.length_map]; exact h1, fun x hx => ?_⟩
      · congr 1
        unfold iL
        rw [List.map_map]
        refine List.ext_getElem? fun j => ?_
        rw [List.getElem?_map]
        cases e : ys[j]? with
        | none => rfl
        | some d => obtain ⟨i, rfl, _⟩ := hint j d e; rfl
      · obtain ⟨d, hd, rfl⟩ := List.mem_map.mp hx
        obtain ⟨j, hj⟩ := List.mem_iff_getElem?.mp hd
        obtain ⟨i, rfl, h⟩ := hint j d hj
        exact h
    · cases h
  · cases h
/-- every type is told -/
def TyOk (M : MS) (x : D) : Prop := tyN x M ∈ tyL ∧ ∀ ys, x = .tup ys → ∀ d ∈ ys, tyN d M ∈ tyL
theorem tyOk_tL (M : MS) (l : List Int) : TyOk M (.tup (iL l)) := ⟨by simp [tyN, tyL], fun ys e d hd => by
  injection e with e; subst e
  obtain ⟨i, _, rfl⟩ := List.mem_map.mp hd
  simp [tyN, tyL]⟩
theorem isB_tup {x : D} {M : MS} : (∃ ys, x = .tup ys) ∨ isB (tyN x M) "tuple" = false := by
  cases x with
  | tup ys => exact .inl ⟨ys, rfl⟩
  | ptr k =>
    right
    unfold tyN
    dsimp only
    split <;> rfl
  | _ => exact .inr rfl
abbrev sp_check_sweets : DSp := fun xs M X k => ∃ n s ws x, xs = [.gm n s ws, x] ∧ TyOk M x ∧ (∀ e, sweetsErr n x = some e → X e M) ∧ (sweetsErr n x = none → k .non M)
abbrev d_check_sweets : DS := (sSeq (sIf (dOr (dNot (dB (dCB rdIsi (dCons (dV 1) (dCons (dC (.ty "tuple")) dNil))))) (dB (dOp rdNe (dCB rdLen (dCons (dV 1) dNil)) (dGet "size" (dV 0))))) (sRaise1 "BadSweets" "index" (dC .non)) sNx) (sFor (iEnT (dCons (dV 1) dNil)) (gT 2 (gsCons (gN 2) (gsCons (gN 3) gsNil))) (sIf (dNot (dB (dCall sp_is_from [] (dCons (dV 3) (dCons (dI 0) (dCons (dI 1000000000000000000000000000000) dNil)))))) (sRaise1 "BadSweets" "index" (dV 2)) sNx)))
--  4 ['game', 'sweets', 'index', 'number']
theorem pure_check_sweets : ∀ ys M X P, sp_check_sweets ys M X P → d_check_sweets (startD 4 ys) M (bodyN M.length X P) := by
  rintro ys M X P ⟨n, s, ws, x, rfl, ⟨hx, hxs⟩, hE, hK⟩
  unfold d_check_sweets
  walk_at "ev"
  refine ⟨hx, by decide, ?_⟩
  rcases isB_tup (x := x) (M := M) with ⟨zs, rfl⟩ | e1
  · rw [show isB (tyN (.tup zs) M) "tuple" = true from rfl]
    walk_at "ev"
    unfold sweetsErr at hE hK
    dsimp only at hE hK
    by_cases h1 : (zs.length : Int) = n
    · rw [decide_eq_true h1]
      walk_at "ev"
      rw [if_pos h1] at hE hK
      refine for_inv (fun i g M' => M' = M ∧ (∃ a b, g = [some (.gm n s ws), some (.tup zs), a, b]) ∧ ∀ m, m < i → isFrom (zs.getD m .non) 0 1000000000000000000000000000000 = true) ⟨rfl, ⟨none, none, rfl⟩, fun m h => by omega⟩ ?_ ?_
      · rintro i y g1 M1 e ⟨rfl, ⟨a, b, rfl⟩, hbad⟩
        obtain ⟨d, ed, rfl⟩ := enumD_inv e
        have hi := (List.getElem?_eq_some_iff.mp ed).1
        walk_at "ev"
        refine ⟨d, 0, _, rfl, hxs _ rfl d (List.mem_of_getElem? ed), ?_⟩
        cases ed1 : isFrom d 0 1000000000000000000000000000000 with
        | false =>
          walk_at "ev"
          refine .same (hE _ ?_)
          unfold firstBadS
          rw [find_lt (fun j hj => by rw [hbad j hj]; rfl) (by rw [getD_of ed, ed1]; rfl) hi]
          rfl
        | true =>
          walk_at "ev"
          refine ⟨⟨_, rfl⟩, fun m hm => ?_⟩
          by_cases hm2 : m = i
          · subst hm2; rw [getD_of ed]; exact ed1
          · exact hbad m (by omega)
      · rintro g1 M1 ⟨rfl, ⟨a, b, rfl⟩, hbad⟩
        rw [enumD_len] at hbad
        refine .same (hK ?_)
        have : firstBadS zs = none := find_none fun j hj => by rw [hbad j hj]; rfl
        rw [this]
        rfl
    · rw [decide_eq_false h1]
      walk_at "ev"
      rw [if_neg h1] at hE
      exact .same (hE _ rfl)
  · rw [e1]
    walk_at "ev"
    refine .same (hE _ ?_)
    cases x with
    | tup zs => cases e1
    | _ => rfl
def fillN (s x : Int) : Int := (x + s - 1) / s * s
def fillL (s : Int) (l : List Int) : List Int := l.map (fillN s)
abbrev sp_filled_by : DSp := fun xs M X k => ∃ n s ws l, xs = [.gm n s ws, .tup (iL l)] ∧ 2 ≤ s ∧ s ≤ 9 ∧ l.length < 16777216 ∧ (∀ c ∈ M, ClnC c) ∧ k (.tup (iL (fillL s l))) M
abbrev d_filled_by : DS := (sRet (dCB rdTup (dCons (dLc (iTp (dV 1)) (gN 2) dYes (dOp rdMul (dOp rdDiv (dOp rdSub (dOp rdAdd (dV 2) (dGet "share" (dV 0))) (dI 1)) (dGet "share" (dV 0))) (dGet "share" (dV 0))) [2]) dNil)))
--  3 ['game', 'sweets', 'number']
theorem pure_filled_by : ∀ ys M X P, sp_filled_by ys M X P → d_filled_by (startD 3 ys) M (bodyN M.length X P) := by
  rintro ys M X P ⟨n, s, ws, l, rfl, h2, h9, hl, hM, q⟩
  unfold d_filled_by
  walk_at "ev"
  refine lc_map (fun y => .int (fillN s (intD y))) hM (by rw [iL_len, sizeLine_val]; exact hl) (fun y hy => .int _) ?_ ?_
  · intro y hy acc _ Q hQ
    obtain ⟨c, _, rfl⟩ := List.mem_map.mp hy
    walk_at "ev"
    exact ⟨divB2 (by omega) (by omega), mulB (by omega), hQ⟩
  · refine ⟨_, _, rfl, rfl, ?_⟩
    have e : (iL l).map (fun y => D.int (fillN s (intD y))) = iL (fillL s l) := by
      unfold iL fillL
      rw [List.map_map, List.map_map]
      rfl
    rw [e]
    exact .same q
end Sw

namespace Sw
open PySem PySem.Spec PyProof.Rows L2 PD
local macro_rules | `(tactic| walk_at "ev") => `(tactic| simp only [sSeq, sAsg, sRet, sRetN, sIf, sDrop, sNx, sPar, sPar3, gN, gT, gsCons, gsNil, dV, dC, dI, dOp, dUn, dCh, dB, dAnd, dOr, dNot, dAndV, dOrV, dNotV, dIf, dNil, dCons, dTup, dLst, dCB, dCall, dSetLen, sTry, hdlD, dkRun, dkCls, dI0, dI2, rdLen, rdIsi, rdIsiT, rdIx, dGet_eq, rdGet_size, rdGet_share, rdGet_ways,
  sFor_eq, dLc_eq, iTp, iLs, iSc, iR1, iR2, iEnT, iEnL, iEnS, wipeD_nil, wipeD_cons, sOpen, dShut, sBrk, sCnt, sNever, dNeg, dPart, dNoPart, dSl, sAug, sSetL, dApp, dPopAt, dNewL, dNewCat, dToRng, sPut, dMake, finG, sRaise0, sRaise1, sFrz, dNewRep, dNewList, dPop, dStar, dUn,
  rdEq_i, rdNe_i, sI_2, ixN_0, ixN_1, Cell.lst.injEq, rdInt_i, rdInt_b, rdAbs_i, rdMax2_i, eqD_int, eqOk_int, cellD_int, eqD_bl, eqOk_bl, cellD_bl, eqOk_non, seqOf_lst, seqOf_tup, lstOf_lst, atD_0, atD_1, atD_2, List.set_set, cellD_lst, cellD_tup, iL_cons, iL_nil, iL_len,
  startD, bodyN, List.map_cons, List.map_nil, List.length_cons, List.length_nil, List.replicate_succ, List.replicate_zero, List.cons_append, List.nil_append, List.append_nil, List.getElem?_cons_zero, List.getElem?_cons_succ, List.set_cons_zero, List.set_cons_succ, Nat.reduceSub, Nat.reduceAdd, Nat.zero_add,
  Option.some.injEq, exists_eq_left', exists_eq_left, D.int.injEq, D.bl.injEq, D.lst.injEq, D.tup.injEq, D.str.injEq, D.ptr.injEq, D.scr.injEq, D.gm.injEq, List.cons.injEq, and_true, true_and, exists_and_left, exists_and_right, D.ty.injEq, and_assoc, ↓reduceIte, eq_self, Bool.not_true, Bool.not_false, Bool.false_eq_true, decide_true, decide_false])
/-! SwD: passed, after, end, lacking. -/
def ixI (l : List Int) (i : Int) : Int := match ixN l.length i with
  | some j => l.getD j 0
  | none => 0
theorem atD_iL {l : List Int} {i : Int} (h0 : -(l.length : Int) ≤ i) (h1 : i < l.length) : atD (iL l) i = some (.int (ixI l i)) := by
  have key : ∃ j, ixN l.length i = some j ∧ j < l.length := by
    unfold ixN
    by_cases h : 0 ≤ i
    · rw [if_pos h, if_pos h1]; exact ⟨_, rfl, by omega⟩
    · rw [if_neg h, if_pos h0]; exact ⟨_, rfl, by omega⟩
  obtain ⟨j, e, hj⟩ := key
  unfold atD ixI
  rw [iL_len, e]
  show (iL l)[j]? = _
  rw [iL_get, List.getElem?_eq_getElem hj]
  show Option.map D.int (some l[j]) = some (.int (l.getD j 0))
  rw [List.getD_eq_getElem?_getD, List.getElem?_eq_getElem hj]
  rfl
theorem ixI_nat (l : List Int) (i : Nat) (h : i < l.length) : ixI l (i : Int) = l.getD i 0 := by
  unfold ixI ixN
  rw [if_pos (by omega), if_pos (by omega)]
  rfl
def unitL (s : Int) (l : List Int) : List Int := l.map fun x => fillN s x / s
def passL (n s : Int) (ws l : List Int) : List Int := (rngL 0 n.toNat).map fun i => (s - (ws.length : Int)) * ixI (unitL s l) i + (ws.map fun w => ixI (unitL s l) (i - w)).sum
theorem passL_len (n s : Int) (ws l : List Int) : (passL n s ws l).length = n.toNat := by unfold passL rngL; simp
abbrev sp_passed : DSp := fun xs M X k => ∃ n s ws l, xs = [.gm n s ws, .tup (iL l)] ∧ GOk n s ws ∧ (l.length : Int) = n ∧ (∀ c ∈ M, ClnC c) ∧ k (.tup (iL (passL n s ws l))) M
abbrev d_passed : DS := (sSeq (sAsg (dLc (iTp (dCall sp_filled_by [] (dCons (dV 0) (dCons (dV 1) dNil)))) (gN 3) dYes (dOp rdDiv (dV 3) (dGet "share" (dV 0))) [3]) (gN 2)) (sSeq (sAsg (dOp rdSub (dGet "share" (dV 0)) (dCB rdLen (dCons (dGet "ways" (dV 0)) dNil))) (gN 4)) (sRet (dCB rdTup (dCons (dLc (iR1 (dCons (dGet "size" (dV 0)) dNil)) (gN 6) dYes (dOp rdAdd (dOp rdMul (dV 4) (dOp rdIx (dV 2) (dV 6))) (dCB rdSum (dCons (dLc (iTp (dGet "ways" (dV 0))) (gN 5) dYes (dOp rdIx (dV 2) (dOp rdSub (dV 6) (dV 5))) [5]) dNil))) [6]) dNil)))))
--  7 ['game', 'sweets', 'units', 'number', 'kept', 'step', 'at']
theorem map_iL (f : Int → Int) (g : D → D) (h : ∀ i, g (.int i) = .int (f i)) (l : List Int) : (iL l).map g = iL (l.map f) := by
  unfold iL
  rw [List.map_map, List.map_map]
  exact List.map_congr_left fun i _ => h i
theorem pure_passed : ∀ ys M X P, sp_passed ys M X P → d_passed (startD 7 ys) M (bodyN M.length X P) := by
  rintro ys M X P ⟨n, s, ws, l, rfl, ok, hl, hM, q⟩
  have hs2 := ok.s2
  have hs9 := ok.s9
  have hn12 := ok.n12
  have hn2 := ok.n2
  have hls := ok.ls
  unfold d_passed
  try walk_at "ev"
  refine ⟨n, s, ws, l, rfl, hs2, hs9, by omega, hM, ?_⟩
  try walk_at "ev"
  refine lc_map (fun y => .int (intD y / s)) hM (by rw [iL_len, sizeLine_val]; unfold fillL; rw [List.length_map]; omega) (fun y hy => .int _) ?_ ?_
  · intro y hy acc _ Q hQ
    obtain ⟨c, _, rfl⟩ := List.mem_map.mp hy
    try walk_at "ev"
    exact ⟨divB2 (by omega) (by omega), hQ⟩
  have eU : (iL (fillL s l)).map (fun y => D.int (intD y / s)) = iL (unitL s l) := by
    rw [map_iL (fun i => i / s) _ (fun i => rfl)]
    unfold fillL unitL
    rw [List.map_map]
    rfl
  have hU : (unitL s l).length = n.toNat := by unfold unitL; rw [List.length_map]; omega
  rw [eU]
  try walk_at "ev"
  refine ⟨by omega, by omega, ?_⟩
  refine lc_map (fun y => .int ((s - (ws.length : Int)) * ixI (unitL s l) (intD y) + (ws.map fun w => ixI (unitL s l) (intD y - w)).sum)) hM (by rw [rng_len, sizeLine_val]; omega) (fun y hy => .int _) ?_ ?_
  · intro y hy acc hacc Q hQ
    obtain ⟨i, hi⟩ := List.mem_iff_getElem?.mp hy
    obtain ⟨hin, rfl⟩ := rng_get _ _ _ hi
    try walk_at "ev"
    refine ⟨_, atD_iL (by rw [hU]; omega) (by rw [hU]; omega), ?_⟩
    try walk_at "ev"
    refine ⟨mulB' (by omega), ?_⟩
    refine lc_map (fun y => .int (ixI (unitL s l) (i - intD y))) (clnC_app hM hacc) (by rw [iL_len, sizeLine_val]; omega) (fun y hy => .int _) ?_ ?_
    · intro y hy acc2 _ Q2 hQ2
      obtain ⟨w, hw, rfl⟩ := List.mem_map.mp hy
      have hw2 := ok.w w hw
      try walk_at "ev"
      exact ⟨_, atD_iL (by rw [hU]; omega) (by rw [hU]; omega), hQ2⟩
    · rw [map_iL (fun w => ixI (unitL s l) (i - w)) _ (fun i => rfl)]
      refine ⟨_, _, rfl, seqOf_lst _ _, ?_⟩
      try walk_at "ev"
      exact hQ
  · refine ⟨_, _, rfl, rfl, ?_⟩
    rw [map_iL (fun i => (s - (ws.length : Int)) * ixI (unitL s l) i + (ws.map fun w => ixI (unitL s l) (i - w)).sum) _ (fun i => rfl)]
    exact .same q
def itP (n s : Int) (ws l : List Int) : Nat → List Int
  | 0 => l
  | t + 1 => passL n s ws (itP n s ws l t)
theorem itP_len {n s : Int} {ws l : List Int} (h : (l.length : Int) = n) (t : Nat) : ((itP n s ws l t).length : Int) = n := by
  cases t with
  | zero => exact h
  | succ t => show ((passL _ _ _ _).length : Int) = n; rw [passL_len]; omega
abbrev sp_after : DSp := fun xs M X k => ∃ n s ws x r, xs = [.gm n s ws, x, r] ∧ GOk n s ws ∧ TyOk M x ∧ tyN r M ∈ tyL ∧ (∀ c ∈ M, ClnC c) ∧ (∀ e, sweetsErr n x = some e → X e M) ∧ (sweetsErr n x = none → isFrom r 0 2000 = false → X ⟨"BadRounds", none⟩ M) ∧
  ∀ l m, x = .tup (iL l) → SwOk n l → r = .int m → 0 ≤ m → m ≤ 2000 → k (.tup (iL (itP n s ws l m.toNat))) M
abbrev d_after : DS := (sSeq (sDrop (dCall sp_check_sweets [] (dCons (dV 0) (dCons (dV 1) dNil)))) (sSeq (sIf (dNot (dB (dCall sp_is_from [] (dCons (dV 2) (dCons (dI 0) (dCons (dI 2000) dNil)))))) (sRaise0 "BadRounds") sNx) (sSeq (sAsg (dV 1) (gN 3)) (sSeq (sFor (iR1 (dCons (dV 2) dNil)) (gN 4) (sAsg (dCall sp_passed [] (dCons (dV 0) (dCons (dV 3) dNil))) (gN 3))) (sRet (dV 3))))))
--  5 ['game', 'sweets', 'rounds', 'found', 'lap']
theorem pure_after : ∀ ys M X P, sp_after ys M X P → d_after (startD 5 ys) M (bodyN M.length X P) := by
  rintro ys M X P ⟨n, s, ws, x, r, rfl, ok, hx, hr, hM, hE, hR, hK⟩
  unfold d_after
  try walk_at "ev"
  refine ⟨n, s, ws, x, rfl, hx, fun e he => .same (hE e he), fun he => ?_⟩
  obtain ⟨l, rfl, hl⟩ := sweetsErr_ok he
  try walk_at "ev"
  refine ⟨r, 0, 2000, rfl, hr, ?_⟩
  cases er : isFrom r 0 2000 with
  | false =>
    try walk_at "ev"
    exact .same (hR he er)
  | true =>
  obtain ⟨m, rfl, h0, h1⟩ := isFrom_int er
  try walk_at "ev"
  refine ⟨by omega, by omega, for_inv (fun i g M' => M' = M ∧ ∃ b, g = [some (.gm n s ws), some (.tup (iL l)), some (.int m), some (.tup (iL (itP n s ws l i))), b]) ⟨rfl, none, rfl⟩ ?_ ?_⟩
  · rintro i y g1 M1 e ⟨rfl, b, rfl⟩
    try walk_at "ev"
    refine ⟨n, s, ws, _, rfl, ok, itP_len hl.1 i, hM, ?_⟩
    try walk_at "ev"
    exact ⟨rfl, _, rfl⟩
  · rintro g1 M1 ⟨rfl, b, rfl⟩
    try walk_at "ev"
    rw [show (rngL 0 m.toNat).length = m.toNat by rw [← iL_len, rng_len]]
    exact .same (hK l m rfl hl rfl h0 h1)
abbrev sp_end : DSp := fun xs M X k => ∃ n s ws x, xs = [.gm n s ws, x] ∧ GOk n s ws ∧ TyOk M x ∧ (∀ c ∈ M, ClnC c) ∧ (∀ e, sweetsErr n x = some e → X e M) ∧
  ∀ l, x = .tup (iL l) → SwOk n l → ∃ T, itP n s ws l (T + 1) = itP n s ws l T ∧ (∀ t, t < T → itP n s ws l (t + 1) ≠ itP n s ws l t) ∧ k (.tup [.tup (iL (itP n s ws l T)), .int (T : Int), .int ((itP n s ws l T).sum - l.sum)]) M
abbrev d_end : DS := (sSeq (sDrop (dCall sp_check_sweets [] (dCons (dV 0) (dCons (dV 1) dNil)))) (sSeq (sPar3 2 3 4 (dCons (dI 0) (dCons (dV 1) (dCons (dCall sp_passed [] (dCons (dV 0) (dCons (dV 1) dNil))) dNil)))) (sSeq (sWhile (dB (dOp rdNe (dV 4) (dV 3))) (sPar3 2 3 4 (dCons (dOp rdAdd (dV 2) (dI 1)) (dCons (dV 4) (dCons (dCall sp_passed [] (dCons (dV 0) (dCons (dV 4) dNil))) dNil))))) (sRet (dTup (dCons (dV 3) (dCons (dV 2) (dCons (dOp rdSub (dCB rdSum (dCons (dCB rdList (dCons (dV 3) dNil)) dNil)) (dCB rdSum (dCons (dCB rdList (dCons (dV 1) dNil)) dNil))) dNil))))))))
--  5 ['game', 'sweets', 'rounds', 'now', 'later']
theorem pure_end : ∀ ys M X P, sp_end ys M X P → d_end (startD 5 ys) M (bodyN M.length X P) := by
  rintro ys M X P ⟨n, s, ws, x, rfl, ok, hx, hM, hE, hK⟩
  unfold d_end
  try walk_at "ev"
  refine ⟨n, s, ws, x, rfl, hx, fun e he => .same (hE e he), fun he => ?_⟩
  obtain ⟨l, rfl, hl⟩ := sweetsErr_ok he
  obtain ⟨T, hT, hTl, q⟩ := hK l rfl hl
  try walk_at "ev"
  refine ⟨n, s, ws, l, rfl, ok, hl.1, hM, ?_⟩
  try walk_at "ev"
  refine ⟨fun m g M' => M' = M ∧ ∃ t, t ≤ T ∧ m = T - t ∧ g = [some (.gm n s ws), some (.tup (iL l)), some (.int (t : Int)), some (.tup (iL (itP n s ws l t))), some (.tup (iL (itP n s ws l (t + 1))))], ⟨T, rfl, 0, Nat.zero_le _, rfl, rfl⟩, ?_⟩
  rintro m g M1 ⟨rfl, t, ht, rfl, rfl⟩
  try walk_at "ev"
  refine rdNe_t _ _ _ _ ?_
  try walk_at "ev"
  by_cases e : itP n s ws l (t + 1) = itP n s ws l t
  · rw [decide_eq_true e]
    have ht2 : t = T := by
      by_cases h : t < T
      · exact absurd e (hTl t h)
      · omega
    subst ht2
    try walk_at "ev"
    refine ⟨_, _, rfl, seqOf_tup _ _, ?_⟩
    try walk_at "ev"
    refine ⟨_, _, rfl, seqOf_lst _ _, ?_⟩
    try walk_at "ev"
    refine ⟨_, _, rfl, seqOf_tup _ _, ?_⟩
    try walk_at "ev"
    refine ⟨_, _, rfl, seqOf_lst _ _, ?_⟩
    try walk_at "ev"
    exact ⟨by decide, .same q⟩
  · rw [decide_eq_false e]
    have ht2 : t < T := by
      by_cases h : t = T
      · subst h; exact absurd hT e
      · omega
    try walk_at "ev"
    refine ⟨n, s, ws, _, rfl, ok, itP_len hl.1 (t + 1), hM, ?_⟩
    try walk_at "ev"
    refine ⟨T - (t + 1), by omega, t + 1, by omega, rfl, rfl, rfl, rfl⟩
abbrev sp_lacking : DSp := fun xs M X k => ∃ n s ws x, xs = [.gm n s ws, x] ∧ GOk n s ws ∧ TyOk M x ∧ (∀ c ∈ M, ClnC c) ∧ (∀ e, sweetsErr n x = some e → X e M) ∧ ∀ l, x = .tup (iL l) → SwOk n l → k (.int ((fillL s l).sum - l.sum)) M
abbrev d_lacking : DS := (sSeq (sDrop (dCall sp_check_sweets [] (dCons (dV 0) (dCons (dV 1) dNil)))) (sRet (dOp rdSub (dCB rdSum (dCons (dCB rdList (dCons (dCall sp_filled_by [] (dCons (dV 0) (dCons (dV 1) dNil))) dNil)) dNil)) (dCB rdSum (dCons (dCB rdList (dCons (dV 1) dNil)) dNil)))))
--  2 ['game', 'sweets']
theorem pure_lacking : ∀ ys M X P, sp_lacking ys M X P → d_lacking (startD 2 ys) M (bodyN M.length X P) := by
  rintro ys M X P ⟨n, s, ws, x, rfl, ok, hx, hM, hE, hK⟩
  unfold d_lacking
  try walk_at "ev"
  refine ⟨n, s, ws, x, rfl, hx, fun e he => .same (hE e he), fun he => ?_⟩
  obtain ⟨l, rfl, hl⟩ := sweetsErr_ok he
  have h1 := hl.1
  have h2 := ok.n12
  try walk_at "ev"
  refine ⟨n, s, ws, l, rfl, ok.s2, ok.s9, by omega, hM, ?_⟩
  try walk_at "ev"
  refine ⟨_, _, rfl, seqOf_tup _ _, ?_⟩
  try walk_at "ev"
  refine ⟨_, _, rfl, seqOf_lst _ _, ?_⟩
  try walk_at "ev"
  refine ⟨_, _, rfl, seqOf_tup _ _, ?_⟩
  try walk_at "ev"
  refine ⟨_, _, rfl, seqOf_lst _ _, ?_⟩
  try walk_at "ev"
  exact .same (hK l rfl hl)
abbrev sp_law_sweets : DSp := fun xs M X k => ∃ j n s ws m, xs = [.ptr j, .gm n s ws, .int m] ∧ M[j]? = some .rng ∧ GOk n s ws ∧ 0 ≤ m ∧ m < 2 ^ 199 ∧ (∀ c ∈ M, ClnC c) ∧ ∀ l : List Int, (l.length : Int) = n → (∀ x ∈ l, 0 ≤ x ∧ (x ≤ 8 ∨ x ≤ m)) → k (.tup (iL l)) M
abbrev d_law_sweets : DS := (sRet (dCB rdTup (dCons (dLc (iR1 (dCons (dGet "size" (dV 1)) dNil)) (gN 3) dYes (dCall sp_law_pick [] (dCons (dV 0) (dCons (dLst (dCons (dI 0) (dCons (dCall sp_law_below [] (dCons (dV 0) (dCons (dI 9) dNil))) (dCons (dCall sp_law_below [] (dCons (dV 0) (dCons (dOp rdAdd (dV 2) (dI 1)) dNil))) dNil)))) dNil))) [3]) dNil)))
--  4 ['_law_d', '_law_game_here', '_law_most', '_law_child']
theorem ints_of {zs : List D} (R : Int → Prop) (h : ∀ (i : Nat) (z : D), zs[i]? = some z → ∃ c, z = .int c ∧ R c) : ∃ l : List Int, zs = iL l ∧ ∀ x ∈ l, R x := by
  refine ⟨zs.map intD, ?_, fun x hx => ?_⟩
  · unfold iL
    rw [List.map_map]
    refine List.ext_getElem? fun j => ?_
    rw [List.getElem?_map]
    cases e : zs[j]? with
    | none => rfl
    | some d => obtain ⟨i, rfl, _⟩ := h j d e; rfl
  · obtain ⟨d, hd, rfl⟩ := List.mem_map.mp hx
    obtain ⟨j, hj⟩ := List.mem_iff_getElem?.mp hd
    obtain ⟨i, rfl, h⟩ := h j d hj
    exact h
theorem pure_law_sweets : ∀ ys M X P, sp_law_sweets ys M X P → d_law_sweets (startD 4 ys) M (bodyN M.length X P) := by
  rintro ys M X P ⟨j, n, s, ws, m, rfl, hj, ok, hm0, hm1, hM, q⟩
  have h1 := ok.n2
  have h2 := ok.n12
  unfold d_law_sweets
  try walk_at "ev"
  refine ⟨by omega, by omega, lc_all (fun y z => ∃ c, z = .int c ∧ 0 ≤ c ∧ (c ≤ 8 ∨ c ≤ m)) hM (by rw [rng_len, sizeLine_val]; omega) (fun y z ⟨c, e, _⟩ => e ▸ .int c) ?_ ?_⟩
  · intro y hy acc hacc Q hQ
    try walk_at "ev"
    refine ⟨j, 9, rfl, get_app hj, by decide, by decide, fun a ha0 ha1 => ?_⟩
    try walk_at "ev"
    refine ⟨j, m + 1, rfl, get_app hj, by omega, by omega, fun b hb0 hb1 => ?_⟩
    try walk_at "ev"
    refine ⟨by decide, j, _, [.int 0, .int a, .int b], rfl, rfl, get_app hj, by simp, by simp, fun z hz => hQ z ?_⟩
    simp at hz
    rcases hz with rfl | rfl | rfl
    · exact ⟨0, rfl, by decide, .inl (by decide)⟩
    · exact ⟨a, rfl, ha0, .inl (by omega)⟩
    · exact ⟨b, rfl, hb0, .inr (by omega)⟩
  · intro zs hz hR
    rw [rng_len] at hz
    obtain ⟨l, rfl, hl⟩ := ints_of (fun c => 0 ≤ c ∧ (c ≤ 8 ∨ c ≤ m)) fun i z e => hR i (.int (i : Int)) z (by
      have hi := (List.getElem?_eq_some_iff.mp e).1
      have e2 : (iL (rngL 0 n.toNat))[i]? = some ((iL (rngL 0 n.toNat))[i]'(by rw [rng_len]; omega)) := List.getElem?_eq_getElem _
      rw [e2, (rng_get _ _ _ e2).2]) e
    rw [iL_len] at hz
    exact ⟨_, _, rfl, rfl, .same (q l (by omega) hl)⟩
abbrev sp_law : DSp := fun xs M X k => ∃ l : List Int, xs = [.scr l] ∧ l.length < 1000 ∧ M = [] ∧ ∀ M', k (.bl true) M'
theorem law_starts (l : List Int) (X : EK) (k : D → MS → Prop) (hl : l.length ≤ 63) (hk : ∀ M', k (.bl true) M') : sp_law [.scr l] [] X k := ⟨l, rfl, by omega, rfl, hk⟩
theorem fix_more {n s : Int} {ws l : List Int} {N : Nat} (h : itP n s ws l (N + 1) = itP n s ws l N) : ∀ j, itP n s ws l (N + j) = itP n s ws l N
  | 0 => rfl
  | j + 1 => by
    show passL n s ws (itP n s ws l (N + j)) = _
    rw [fix_more h j]
    exact h
theorem least_fix {n s : Int} {ws l : List Int} : ∀ {N : Nat}, itP n s ws l (N + 1) = itP n s ws l N → ∃ T, T ≤ N ∧ itP n s ws l (T + 1) = itP n s ws l T ∧ (∀ t, t < T → itP n s ws l (t + 1) ≠ itP n s ws l t) ∧ itP n s ws l T = itP n s ws l N
  | 0, h => ⟨0, Nat.le_refl _, h, fun t ht => absurd ht (Nat.not_lt_zero _), rfl⟩
  | N + 1, h => by
    by_cases e : itP n s ws l (N + 1) = itP n s ws l N
    · obtain ⟨T, h1, h2, h3, h4⟩ := least_fix e
      exact ⟨T, by omega, h2, h3, by rw [h4, e]⟩
    · refine ⟨N + 1, Nat.le_refl _, h, fun t ht e2 => e ?_, rfl⟩
      have h5 := fix_more e2
      have h6 : N = t + (N - t) := by omega
      rw [h6, show t + (N - t) + 1 = t + (N - t + 1) by omega, h5, h5]
theorem gok21 : GOk 2 2 [1] := ⟨by decide, by decide, by decide, by decide, by decide, by decide, by decide, fun i a b ha hb => by simp at hb⟩
theorem pass2 (a b : Int) : passL 2 2 [1] [a, b] = [(a + 1) / 2 + (b + 1) / 2, (a + 1) / 2 + (b + 1) / 2] := by
  have e1 : ∀ u v : Int, ixI [u, v] 0 = u := fun u v => rfl
  have e2 : ∀ u v : Int, ixI [u, v] 1 = v := fun u v => rfl
  have e3 : ∀ u v : Int, ixI [u, v] (-1) = v := fun u v => rfl
  have h : passL 2 2 [1] [a, b] = [(2 - 1) * ixI (unitL 2 [a, b]) 0 + (ixI (unitL 2 [a, b]) (-1) + 0), (2 - 1) * ixI (unitL 2 [a, b]) 1 + (ixI (unitL 2 [a, b]) 0 + 0)] := rfl
  rw [h]
  show [(2 - 1) * ixI [fillN 2 a / 2, fillN 2 b / 2] 0 + (ixI [fillN 2 a / 2, fillN 2 b / 2] (-1) + 0), (2 - 1) * ixI [fillN 2 a / 2, fillN 2 b / 2] 1 + (ixI [fillN 2 a / 2, fillN 2 b / 2] 0 + 0)] = _
  rw [e1, e2, e3]
  have f : ∀ x : Int, fillN 2 x / 2 = (x + 1) / 2 := fun x => by unfold fillN; omega
  rw [f, f]
  congr 1
  · omega
  · congr 1; omega
theorem fill_eq {s x : Int} (h2 : 2 ≤ s) (h9 : s ≤ 9) : x + (0 - x) % s = fillN s x := by
  have : s = 2 ∨ s = 3 ∨ s = 4 ∨ s = 5 ∨ s = 6 ∨ s = 7 ∨ s = 8 ∨ s = 9 := by omega
  unfold fillN
  rcases this with rfl | rfl | rfl | rfl | rfl | rfl | rfl | rfl <;> omega
theorem ixI_rep {n : Nat} {u i : Int} (h0 : -(n : Int) ≤ i) (h1 : i < n) : ixI (List.replicate n u) i = u := by
  have key : ∃ j, ixN (List.replicate n u).length i = some j ∧ j < n := by
    rw [List.length_replicate]
    unfold ixN
    by_cases h : 0 ≤ i
    · rw [if_pos h, if_pos h1]; exact ⟨_, rfl, by omega⟩
    · rw [if_neg h, if_pos h0]; exact ⟨_, rfl, by omega⟩
  obtain ⟨j, e, hj⟩ := key
  unfold ixI
  rw [e]
  show (List.replicate n u).getD j 0 = u
  rw [List.getD_eq_getElem?_getD, List.getElem?_replicate, if_pos hj]
  rfl
theorem sum_rep (u : Int) : ∀ n : Nat, (List.replicate n u).sum = (n : Int) * u
  | 0 => by simp
  | n + 1 => by
    rw [List.replicate_succ, List.sum_cons, sum_rep u n, Int.natCast_add]
    have : ((1 : Nat) : Int) = 1 := rfl
    rw [this, Int.add_mul, Int.one_mul, Int.add_comm]
theorem pass_rep {n s : Int} {ws : List Int} (ok : GOk n s ws) (x : Int) : passL n s ws (List.replicate n.toNat x) = List.replicate n.toNat (fillN s x) := by
  have h1 := ok.n2
  have hU : unitL s (List.replicate n.toNat x) = List.replicate n.toNat (fillN s x / s) := by unfold unitL; rw [List.map_replicate]
  unfold passL
  rw [hU]
  refine List.ext_getElem? fun i => ?_
  rw [List.getElem?_map, List.getElem?_replicate]
  unfold rngL
  rw [List.getElem?_map]
  by_cases hi : i < n.toNat
  · rw [List.getElem?_range hi, if_pos hi]
    show some ((s - (ws.length : Int)) * ixI (List.replicate n.toNat (fillN s x / s)) (0 + (i : Int)) + (ws.map fun w => ixI (List.replicate n.toNat (fillN s x / s)) (0 + (i : Int) - w)).sum) = some _
    congr 1
    rw [ixI_rep (by omega) (by omega)]
    have hw : (ws.map fun w => ixI (List.replicate n.toNat (fillN s x / s)) (0 + (i : Int) - w)) = List.replicate ws.length (fillN s x / s) := by
      refine List.ext_getElem? fun j => ?_
      rw [List.getElem?_map, List.getElem?_replicate]
      by_cases hj : j < ws.length
      · rw [List.getElem?_eq_getElem hj, if_pos hj]
        have := ok.w _ (List.getElem_mem hj)
        show some (ixI (List.replicate n.toNat (fillN s x / s)) (0 + (i : Int) - ws[j])) = some _
        rw [ixI_rep (by omega) (by omega)]
      · rw [List.getElem?_eq_none (by omega), if_neg hj]; rfl
    rw [hw, sum_rep, ← Int.add_mul]
    have hs := ok.s2
    have e : fillN s x / s = (x + s - 1) / s := by unfold fillN; rw [Int.mul_ediv_cancel _ (by omega)]
    rw [e, show s - (ws.length : Int) + (ws.length : Int) = s by omega]
    unfold fillN
    rw [Int.mul_comm]
  · rw [List.getElem?_eq_none (by rw [List.length_range]; omega), if_neg hi]; rfl
theorem fill_idem {s x : Int} (h : 2 ≤ s) : fillN s (fillN s x) = fillN s x := by
  have e : (fillN s x + s - 1) / s = fillN s x / s := by
    unfold fillN
    rw [Int.mul_ediv_cancel _ (by omega), show (x + s - 1) / s * s + s - 1 = (s - 1) + (x + s - 1) / s * s by omega, Int.add_mul_ediv_right _ _ (by omega), Int.ediv_eq_zero_of_lt (by omega) (by omega), Int.zero_add]
  show (fillN s x + s - 1) / s * s = _
  rw [e]
  unfold fillN
  rw [Int.mul_ediv_cancel _ (by omega)]
theorem flat_rep (n : Nat) (d : D) : (List.replicate n [d]).flatten = List.replicate n d := by
  induction n with
  | zero => rfl
  | succ n ih => rw [List.replicate_succ, List.flatten_cons, ih, List.replicate_succ]; rfl
theorem iL_rep (n : Nat) (i : Int) : List.replicate n (D.int i) = iL (List.replicate n i) := by unfold iL; rw [List.map_replicate]
theorem rdRepT_1 {x n : Int} (h2 : 2 ≤ n) (h12 : n ≤ 12) (M : MS) (k : D → Prop) (q : k (.tup (iL (List.replicate n.toNat x)))) : rdRepT (.tup [.int x]) (.int n) M k := by
  refine ⟨[.int x], n, rfl, rfl, by simp, h2, by omega, by simp, ?_⟩
  rw [flat_rep, iL_rep]
  exact q
/-- Game(2, 2, (1,)) made: what is wished of __init__ -/
theorem make_game {cG : Addr} {M : MS} {E : Exn → Prop} {R : Int → Int → List Int → Prop} (hM : ∀ c ∈ M, ClnC c) {n s : Int} {ws : List Int} (ok : GOk n s ws) (q : R n s ws) : sp_Game_init cG [.ptr M.length, .int n, .int s, .tup (iL ws)] (M ++ [.ins cG []])
    (fun e M2 => (∃ fs, M2 = M ++ [.ins cG fs]) ∧ (∀ c ∈ M, ClnC c) ∧ (∀ f y, e.fld = some (f, y) → Cln y) ∧ E e)
    (fun y M2 => y = .non ∧ ∃ n s ws, M2 = M ++ [.ins cG (gmF n s ws)] ∧ (∀ c ∈ M, ClnC c) ∧ R n s ws) := by
  refine ⟨_, _, _, _, rfl, last_get, by simp [tyN, tyL], by simp [tyN, tyL], by simp [tyN, tyL], fun ys e d hd => ?_, fun e he => ?_, fun n s ws2 e1 e2 e3 ok2 => ?_⟩
  · injection e with e; subst e
    obtain ⟨i, _, rfl⟩ := List.mem_map.mp hd
    simp [tyN, tyL]
  · rw [gameErr_none ok] at he; cases he
  · injection e1 with e1; injection e2 with e2; injection e3 with e3
    have e3 := iL_inj e3
    subst e1 e2 e3
    exact ⟨rfl, _, _, _, last_set, hM, q⟩
theorem itP_len' {n s : Int} {ws l : List Int} (h : (l.length : Int) = n) {t : Nat} : (itP n s ws l t).length = n.toNat := by have := itP_len (s := s) (ws := ws) h t; omega
theorem use_after {n s : Int} {ws l : List Int} {m : Int} (ok : GOk n s ws) (sok : SwOk n l) (h0 : 0 ≤ m) (h1 : m ≤ 2000) {M : MS} (hM : ∀ c ∈ M, ClnC c) {X : EK} {k : D → MS → Prop} (q : k (.tup (iL (itP n s ws l m.toNat))) M) : sp_after [.gm n s ws, .tup (iL l), .int m] M X k :=
  ⟨n, s, ws, _, _, rfl, ok, tyOk_tL M l, by simp [tyN, tyL], hM, fun e he => (by rw [sweetsErr_none sok] at he; cases he), fun _ hr => (by rw [isFrom_i ⟨h0, h1⟩] at hr; cases hr), fun l' m' e1 _ e2 _ _ => by
    injection e1 with e1; injection e2 with e2
    have e1 := iL_inj e1
    subst e1 e2
    exact q⟩
theorem use_end {n s : Int} {ws l : List Int} (ok : GOk n s ws) (sok : SwOk n l) {M : MS} (hM : ∀ c ∈ M, ClnC c) {X : EK} {k : D → MS → Prop}
    (q : ∃ T, itP n s ws l (T + 1) = itP n s ws l T ∧ (∀ t, t < T → itP n s ws l (t + 1) ≠ itP n s ws l t) ∧ k (.tup [.tup (iL (itP n s ws l T)), .int (T : Int), .int ((itP n s ws l T).sum - l.sum)]) M) : sp_end [.gm n s ws, .tup (iL l)] M X k :=
  ⟨n, s, ws, _, rfl, ok, tyOk_tL M l, hM, fun e he => (by rw [sweetsErr_none sok] at he; cases he), fun l' e1 _ => by
    injection e1 with e1
    have e1 := iL_inj e1
    subst e1
    exact q⟩
theorem use_lacking {n s : Int} {ws l : List Int} (ok : GOk n s ws) (sok : SwOk n l) {M : MS} (hM : ∀ c ∈ M, ClnC c) {X : EK} {k : D → MS → Prop} (q : k (.int ((fillL s l).sum - l.sum)) M) : sp_lacking [.gm n s ws, .tup (iL l)] M X k :=
  ⟨n, s, ws, _, rfl, ok, tyOk_tL M l, hM, fun e he => (by rw [sweetsErr_none sok] at he; cases he), fun l' e1 _ => by
    injection e1 with e1
    have e1 := iL_inj e1
    subst e1
    exact q⟩
theorem use_eq {n : Nat} {x y : D} (h : x = y) (hx : Pz n x) {M : MS} (hM : ∀ c ∈ M, ClnC c) {X : EK} {k : D → MS → Prop} (q : k (.bl true) M) : sp_law_equal n [x, y] M X k :=
  ⟨x, y, rfl, hx, h ▸ hx, hM, fun b hb => by
    have : b = true := hb.mpr h
    rw [this]; exact q⟩
end Sw

namespace Sw
open PySem PySem.Spec PyProof.Rows L2 PD
local macro_rules | `(tactic| walk_at "ev") => `(tactic| simp only [sSeq, sAsg, sRet, sRetN, sIf, sDrop, sNx, sPar, sPar3, gN, gT, gsCons, gsNil, dV, dC, dI, dOp, dUn, dCh, dB, dAnd, dOr, dNot, dAndV, dOrV, dNotV, dIf, dNil, dCons, dTup, dLst, dCB, dCall, dSetLen, sTry, hdlD, dkRun, dkCls, dI0, dI2, rdLen, rdIsi, rdIsiT, rdIx, dGet_eq, rdGet_size, rdGet_share, rdGet_ways,
  sFor_eq, dLc_eq, iTp, iLs, iSc, iR1, iR2, iEnT, iEnL, iEnS, wipeD_nil, wipeD_cons, sOpen, dShut, sBrk, sCnt, sNever, dNeg, dPart, dNoPart, dSl, sAug, sSetL, dApp, dPopAt, dNewL, dNewCat, dToRng, sPut, dMake, finG, sRaise0, sRaise1, sFrz, dNewRep, dNewList, dPop, dStar, dUn,
  rdEq_i, rdNe_i, sI_2, ixN_0, ixN_1, Cell.lst.injEq, rdInt_i, rdInt_b, rdAbs_i, rdMax2_i, eqD_int, eqOk_int, cellD_int, eqD_bl, eqOk_bl, cellD_bl, eqOk_non, seqOf_lst, seqOf_tup, lstOf_lst, atD_0, atD_1, atD_2, List.set_set, cellD_lst, cellD_tup, iL_cons, iL_nil, iL_len,
  startD, bodyN, List.map_cons, List.map_nil, List.length_cons, List.length_nil, List.replicate_succ, List.replicate_zero, List.cons_append, List.nil_append, List.append_nil, List.getElem?_cons_zero, List.getElem?_cons_succ, List.set_cons_zero, List.set_cons_succ, Nat.reduceSub, Nat.reduceAdd, Nat.zero_add,
  Option.some.injEq, exists_eq_left', exists_eq_left, D.int.injEq, D.bl.injEq, D.lst.injEq, D.tup.injEq, D.str.injEq, D.ptr.injEq, D.scr.injEq, D.gm.injEq, List.cons.injEq, and_true, true_and, exists_and_left, exists_and_right, D.ty.injEq, and_assoc, ↓reduceIte, eq_self, Bool.not_true, Bool.not_false, Bool.false_eq_true, decide_true, decide_false])
/-! SwE: the law's own round. -/
abbrev sp_filled : DSp := fun xs M X k => ∃ n s ws x, xs = [.gm n s ws, x] ∧ GOk n s ws ∧ TyOk M x ∧ (∀ c ∈ M, ClnC c) ∧ (∀ e, sweetsErr n x = some e → X e M) ∧ ∀ l, x = .tup (iL l) → SwOk n l → k (.tup (iL (fillL s l))) M
abbrev d_filled : DS := (sSeq (sDrop (dCall sp_check_sweets [] (dCons (dV 0) (dCons (dV 1) dNil)))) (sRet (dCall sp_filled_by [] (dCons (dV 0) (dCons (dV 1) dNil)))))
--  2 ['game', 'sweets']
theorem pure_filled : ∀ ys M X P, sp_filled ys M X P → d_filled (startD 2 ys) M (bodyN M.length X P) := by
  rintro ys M X P ⟨n, s, ws, x, rfl, ok, hx, hM, hE, hK⟩
  unfold d_filled
  walk_at "ev"
  refine ⟨n, s, ws, x, rfl, hx, fun e he => .same (hE e he), fun he => ?_⟩
  obtain ⟨l, rfl, hl⟩ := sweetsErr_ok he
  have h1 := hl.1
  have h2 := ok.n12
  exact ⟨n, s, ws, l, rfl, ok.s2, ok.s9, by omega, hM, .same (hK l rfl hl)⟩
abbrev sp_is_still : DSp := fun xs M X k => ∃ n s ws x, xs = [.gm n s ws, x] ∧ GOk n s ws ∧ TyOk M x ∧ (∀ c ∈ M, ClnC c) ∧ (∀ e, sweetsErr n x = some e → X e M) ∧ ∀ l, x = .tup (iL l) → SwOk n l → k (.bl (decide (passL n s ws l = l))) M
abbrev d_is_still : DS := (sSeq (sDrop (dCall sp_check_sweets [] (dCons (dV 0) (dCons (dV 1) dNil)))) (sRet (dOp rdEq (dCall sp_passed [] (dCons (dV 0) (dCons (dV 1) dNil))) (dV 1))))
--  2 ['game', 'sweets']
theorem pure_is_still : ∀ ys M X P, sp_is_still ys M X P → d_is_still (startD 2 ys) M (bodyN M.length X P) := by
  rintro ys M X P ⟨n, s, ws, x, rfl, ok, hx, hM, hE, hK⟩
  unfold d_is_still
  walk_at "ev"
  refine ⟨n, s, ws, x, rfl, hx, fun e he => .same (hE e he), fun he => ?_⟩
  obtain ⟨l, rfl, hl⟩ := sweetsErr_ok he
  try walk_at "ev"
  exact ⟨n, s, ws, l, rfl, ok, hl.1, hM, rdEq_t _ _ _ _ (.same (hK l rfl hl))⟩
theorem use_filled {n s : Int} {ws l : List Int} (ok : GOk n s ws) (sok : SwOk n l) {M : MS} (hM : ∀ c ∈ M, ClnC c) {X : EK} {k : D → MS → Prop} (q : k (.tup (iL (fillL s l))) M) : sp_filled [.gm n s ws, .tup (iL l)] M X k :=
  ⟨n, s, ws, _, rfl, ok, tyOk_tL M l, hM, fun e he => (by rw [sweetsErr_none sok] at he; cases he), fun l' e1 _ => by
    injection e1 with e1
    have e1 := iL_inj e1
    subst e1
    exact q⟩
theorem use_still {n s : Int} {ws l : List Int} (ok : GOk n s ws) (sok : SwOk n l) {M : MS} (hM : ∀ c ∈ M, ClnC c) {X : EK} {k : D → MS → Prop} (q : k (.bl (decide (passL n s ws l = l))) M) : sp_is_still [.gm n s ws, .tup (iL l)] M X k :=
  ⟨n, s, ws, _, rfl, ok, tyOk_tL M l, hM, fun e he => (by rw [sweetsErr_none sok] at he; cases he), fun l' e1 _ => by
    injection e1 with e1
    have e1 := iL_inj e1
    subst e1
    exact q⟩
/-! a list by its places -/
def tab (n : Nat) (f : Nat → Int) : List Int := (List.range n).map f
theorem tab_len (n : Nat) (f : Nat → Int) : (tab n f).length = n := by unfold tab; rw [List.length_map, List.length_range]
theorem tab_get {n i : Nat} (f : Nat → Int) (h : i < n) : (tab n f)[i]? = some (f i) := by unfold tab; rw [List.getElem?_map, List.getElem?_range h]; rfl
theorem tab_congr {n : Nat} {f g : Nat → Int} (h : ∀ i, i < n → f i = g i) : tab n f = tab n g := by
  unfold tab
  exact List.map_congr_left fun i hi => h i (List.mem_range.mp hi)
theorem tab_set {n j : Nat} (f : Nat → Int) (v : Int) (h : j < n) : (tab n f).set j v = tab n fun i => if i = j then v else f i := by
  refine List.ext_getElem? fun i => ?_
  by_cases hi : i < n
  · rw [tab_get _ hi]
    by_cases e : j = i
    · subst e; rw [List.getElem?_set_self (by rw [tab_len]; exact hi), if_pos rfl]
    · rw [List.getElem?_set_ne e, tab_get _ hi, if_neg (Ne.symm e)]
  · rw [List.getElem?_eq_none (by rw [List.length_set, tab_len]; omega), List.getElem?_eq_none (by rw [tab_len]; omega)]
theorem iL_set (l : List Int) (j : Nat) (v : Int) : (iL l).set j (.int v) = iL (l.set j v) := by unfold iL; rw [List.map_set]
theorem iL_tab_get {n i : Nat} (f : Nat → Int) (h : i < n) : (iL (tab n f))[i]? = some (.int (f i)) := by rw [iL_get, tab_get f h]; rfl
theorem atD_tab {n i : Nat} (f : Nat → Int) (h : i < n) : atD (iL (tab n f)) (i : Int) = some (.int (f i)) := by rw [atD_nat, iL_tab_get f h]
theorem ixN_tab {n i : Nat} (f : Nat → Int) (h : i < n) : ixN (iL (tab n f)).length (i : Int) = some i := by
  rw [iL_len, tab_len]
  unfold ixN
  rw [if_pos (by omega), if_pos (by omega)]
  rfl
theorem list_tab (l : List Int) : l = tab l.length fun i => l.getD i 0 := by
  refine List.ext_getElem? fun i => ?_
  by_cases hi : i < l.length
  · rw [tab_get _ hi, List.getElem?_eq_getElem hi, List.getD_eq_getElem?_getD, List.getElem?_eq_getElem hi]; rfl
  · rw [List.getElem?_eq_none (by omega), List.getElem?_eq_none (by rw [tab_len]; omega)]
/-- what the law's round has given behind c children and k steps of the next -/
def gAt (n : Nat) (kept : Int) (ws : List Int) (U : Nat → Int) (c : Nat) (i : Nat) : Int := (if i < c then U i * kept else 0) + (ws.map fun w => if ((i : Int) - w) % (n : Int) < (c : Int) then U (((i : Int) - w) % (n : Int)).toNat else 0).sum
def hAt (n : Nat) (ws : List Int) (u : Int) (c : Nat) (k : Nat) (i : Nat) : Int := ((ws.take k).map fun w => if ((c : Int) + w) % (n : Int) = (i : Int) then u else 0).sum
theorem sum_add (f g : Int → Int) : ∀ ws : List Int, (ws.map fun w => f w + g w).sum = (ws.map f).sum + (ws.map g).sum
  | [] => rfl
  | w :: ws => by simp only [List.map_cons, List.sum_cons, sum_add f g ws]; omega
theorem mod_back {n : Nat} {i c : Nat} {w : Int} (hi : i < n) (hc : c < n) : (((i : Int) - w) % (n : Int) = (c : Int)) ↔ (((c : Int) + w) % (n : Int) = (i : Int)) := by
  have hn : (0 : Int) < n := by omega
  constructor
  · intro h
    have e : ((i : Int) - w) % (n : Int) = (i - w) - n * ((i - w) / n) := Int.emod_def ..
    have e2 : (c : Int) + w = i + n * (-((i - w) / n)) := by rw [Int.mul_neg]; omega
    rw [e2, Int.add_mul_emod_self_left, Int.emod_eq_of_lt (by omega) (by omega)]
  · intro h
    have e : ((c : Int) + w) % (n : Int) = (c + w) - n * ((c + w) / n) := Int.emod_def ..
    have e2 : (i : Int) - w = c + n * (-((c + w) / n)) := by rw [Int.mul_neg]; omega
    rw [e2, Int.add_mul_emod_self_left, Int.emod_eq_of_lt (by omega) (by omega)]
theorem gAt_succ {n : Nat} {kept : Int} {ws : List Int} {U : Nat → Int} {c i : Nat} (hc : c < n) (hi : i < n) : gAt n kept ws U (c + 1) i = (gAt n kept ws U c i + if i = c then U c * kept else 0) + hAt n ws (U c) c ws.length i := by
  unfold gAt hAt
  rw [List.take_length]
  have e : (ws.map fun w => if ((i : Int) - w) % (n : Int) < ((c + 1 : Nat) : Int) then U (((i : Int) - w) % (n : Int)).toNat else 0) = ws.map fun w => (if ((i : Int) - w) % (n : Int) < (c : Int) then U (((i : Int) - w) % (n : Int)).toNat else 0) + (if ((c : Int) + w) % (n : Int) = (i : Int) then U c else 0) := by
    refine List.map_congr_left fun w _ => ?_
    have hb := mod_back (w := w) hi hc
    have h0 := Int.emod_nonneg ((i : Int) - w) (by omega : (n : Int) ≠ 0)
    by_cases h1 : ((i : Int) - w) % (n : Int) = (c : Int)
    · rw [if_pos (by omega), if_neg (by omega), if_pos (hb.mp h1), h1]
      simp
    · rw [if_neg (fun z => h1 (hb.mpr z))]
      by_cases h2 : ((i : Int) - w) % (n : Int) < (c : Int)
      · rw [if_pos (by omega), if_pos h2]; omega
      · rw [if_neg (by omega), if_neg h2]; rfl
  rw [e, sum_add]
  by_cases h : i = c
  · subst h
    rw [if_pos (by omega), if_neg (by omega), if_pos rfl]; omega
  · rw [if_neg h]
    by_cases h2 : i < c
    · rw [if_pos (by omega), if_pos h2]; omega
    · rw [if_neg (by omega), if_neg h2]; omega
theorem gAt_zero {n : Nat} {kept : Int} {ws : List Int} {U : Nat → Int} {i : Nat} (hn : 0 < n) : gAt n kept ws U 0 i = 0 := by
  unfold gAt
  rw [if_neg (by omega)]
  have e : (ws.map fun w => if ((i : Int) - w) % (n : Int) < ((0 : Nat) : Int) then U (((i : Int) - w) % (n : Int)).toNat else 0) = ws.map fun _ => (0 : Int) := by
    refine List.map_congr_left fun w _ => ?_
    have h0 := Int.emod_nonneg ((i : Int) - w) (by omega : (n : Int) ≠ 0)
    rw [if_neg (by omega)]
  rw [e]
  have : ∀ l : List Int, (l.map fun _ => (0 : Int)).sum = 0 := fun l => by
    induction l with
    | nil => rfl
    | cons a l ih => rw [List.map_cons, List.sum_cons, ih]; rfl
  rw [this]; rfl
theorem hAt_succ {n : Nat} {ws : List Int} {u : Int} {c k i : Nat} {w : Int} (h : ws[k]? = some w) : hAt n ws u c (k + 1) i = hAt n ws u c k i + if ((c : Int) + w) % (n : Int) = (i : Int) then u else 0 := by
  unfold hAt
  rw [List.take_add_one, h, List.map_append, List.sum_append]
  simp
theorem unit_eq {s x : Int} (h2 : 2 ≤ s) (h9 : s ≤ 9) : x / s + (if decide (0 < x % s) = true then 1 else 0) = fillN s x / s := by
  have e : fillN s x / s = (x + s - 1) / s := by unfold fillN; rw [Int.mul_ediv_cancel _ (by omega)]
  rw [e]
  have : s = 2 ∨ s = 3 ∨ s = 4 ∨ s = 5 ∨ s = 6 ∨ s = 7 ∨ s = 8 ∨ s = 9 := by omega
  by_cases h : 0 < x % s
  · rw [decide_eq_true h, if_pos rfl]
    rcases this with rfl | rfl | rfl | rfl | rfl | rfl | rfl | rfl <;> omega
  · rw [decide_eq_false h, if_neg (by decide)]
    rcases this with rfl | rfl | rfl | rfl | rfl | rfl | rfl | rfl <;> omega
theorem gAt_pass {n s : Int} {ws l : List Int} (ok : GOk n s ws) (hl : (l.length : Int) = n) : tab n.toNat (gAt n.toNat (s - (ws.length : Int)) ws (fun i => (unitL s l).getD i 0) n.toNat) = passL n s ws l := by
  have h2 := ok.n2
  have hU : (unitL s l).length = n.toNat := by unfold unitL; rw [List.length_map]; omega
  unfold passL rngL
  rw [List.map_map]
  unfold tab
  refine List.map_congr_left fun i hi => ?_
  have hi := List.mem_range.mp hi
  show gAt _ _ _ _ _ _ = (s - (ws.length : Int)) * ixI (unitL s l) (0 + (i : Int)) + (ws.map fun w => ixI (unitL s l) (0 + (i : Int) - w)).sum
  unfold gAt
  rw [if_pos hi, Int.zero_add, ixI_nat _ _ (by omega), Int.mul_comm]
  congr 2
  refine List.map_congr_left fun w hw => ?_
  have hw2 := ok.w w hw
  have e : ((n.toNat : Nat) : Int) = n := by omega
  rw [e, if_pos (Int.emod_lt_of_pos _ (by omega))]
  by_cases h : 0 ≤ (i : Int) - w
  · have h5 := ixI_nat (unitL s l) ((i : Int) - w).toNat (by omega)
    rw [Int.toNat_of_nonneg h] at h5
    rw [Int.emod_eq_of_lt h (by omega), h5]
  · have e3 : ((i : Int) - w) % n = (i : Int) - w + n := by
      rw [← Int.add_emod_right, Int.emod_eq_of_lt (by omega) (by omega)]
    rw [e3]
    unfold ixI ixN
    rw [if_neg h, if_pos (by omega), hU, e]
abbrev sp_law_round : DSp := fun xs M X k => ∃ n s ws l, xs = [.gm n s ws, .tup (iL l)] ∧ GOk n s ws ∧ (l.length : Int) = n ∧ (∀ c ∈ M, ClnC c) ∧ k (.tup (iL (passL n s ws l))) M
abbrev d_law_round : DS := (sSeq (sAsg (dLc (iTp (dV 1)) (gN 3) dYes (dOp rdAdd (dOp rdDiv (dV 3) (dGet "share" (dV 0))) (dCB rdInt (dCons (dOp rdGt (dOp rdMod (dV 3) (dGet "share" (dV 0))) (dI 0)) dNil))) [3]) (gN 2)) (sSeq (sPar 4 5 (dCons (dNewRep (dLst (dCons (dI 0) dNil)) (dCB rdLen (dCons (dV 1) dNil))) (dCons (dOp rdSub (dGet "share" (dV 0)) (dCB rdLen (dCons (dGet "ways" (dV 0)) dNil))) dNil))) (sSeq (sFor (iR1 (dCons (dCB rdLen (dCons (dV 1) dNil)) dNil)) (gN 6) (sSeq (sSetL (dOp rdAdd (dOp rdIx (dV 4) (dV 6)) (dOp rdMul (dOp rdIx (dV 2) (dV 6)) (dV 5))) (dV 4) (dV 6)) (sFor (iTp (dGet "ways" (dV 0))) (gN 7) (sSeq (sAsg (dOp rdMod (dOp rdAdd (dV 6) (dV 7)) (dCB rdLen (dCons (dV 1) dNil))) (gN 8)) (sSetL (dOp rdAdd (dOp rdIx (dV 4) (dV 8)) (dOp rdIx (dV 2) (dV 6))) (dV 4) (dV 8)))))) (sRet (dCB rdTup (dCons (dV 4) dNil))))))
--  9 ['_law_game_here', '_law_sweets_here', '_law_parts_so', '_law_number', '_law_found', '_law_kept', '_law_child', '_law_step', '_law_other']
theorem pure_law_round : ∀ ys M X P, sp_law_round ys M X P → d_law_round (startD 9 ys) M (bodyN M.length X P) := by
  rintro ys M X P ⟨n, s, ws, l, rfl, ok, hl, hM, q⟩
  have h2 := ok.s2
  have h9 := ok.s9
  have hn2 := ok.n2
  have hn12 := ok.n12
  have hls := ok.ls
  have hU : (unitL s l).length = n.toNat := by unfold unitL; rw [List.length_map]; omega
  unfold d_law_round
  walk_at "ev"
  refine lc_map (fun y => .int (fillN s (intD y) / s)) hM (by rw [iL_len, sizeLine_val]; omega) (fun y hy => .int _) ?_ ?_
  · intro y hy acc _ Q hQ
    obtain ⟨c, _, rfl⟩ := List.mem_map.mp hy
    walk_at "ev"
    refine ⟨divB2 (by omega) (by omega), by omega, ?_⟩
    rw [unit_eq h2 h9]
    exact hQ
  rw [map_iL (fun i => fillN s i / s) _ (fun i => rfl)]
  have eU : l.map (fun i => fillN s i / s) = unitL s l := rfl
  rw [eU]
  try walk_at "ev"
  refine ⟨by decide, by omega, by omega, by rw [sizeLine_val]; omega, by omega, by omega, ?_⟩
  have e0 : (List.replicate (Int.toNat (l.length : Int)) [D.int 0]).flatten = iL (tab n.toNat (gAt n.toNat (s - (ws.length : Int)) ws (fun i => (unitL s l).getD i 0) 0)) := by
    rw [flat_rep, iL_rep]
    congr 1
    rw [tab_congr (g := fun _ => 0) fun i hi => gAt_zero (by omega)]
    unfold tab
    rw [List.map_const', List.length_range]
    congr 1
    omega
  rw [e0]
  have hlN : (Int.toNat (l.length : Int)) = n.toNat := by omega
  have hnn : ((n.toNat : Nat) : Int) = n := by omega
  have hln : (l.length : Int) = ((n.toNat : Nat) : Int) := by omega
  refine for_inv (fun i g M' => M' = M ++ [.lst (iL (tab n.toNat (gAt n.toNat (s - (ws.length : Int)) ws (fun i => (unitL s l).getD i 0) i)))] ∧ ∃ a b c d, g = [some (.gm n s ws), some (.tup (iL l)), some (.lst (iL (unitL s l))), a, some (.ptr M.length), some (.int (s - (ws.length : Int))), b, c, d])
    ⟨rfl, _, _, _, _, rfl⟩ ?_ ?_
  · rintro i y g1 M1 e ⟨rfl, a, b, c, d, rfl⟩
    obtain ⟨hi, rfl⟩ := rng_get _ _ _ e
    rw [hlN] at hi
    have hUi : atD (iL (unitL s l)) (i : Int) = some (.int ((unitL s l).getD i 0)) := by
      rw [atD_iL (by omega) (by omega), ixI_nat _ _ (by omega)]
    walk_at "ev"
    refine ⟨_, seqOf_ptr last_get, _, atD_tab _ hi, ?_⟩
    walk_at "ev"
    refine ⟨_, hUi, ?_⟩
    walk_at "ev"
    refine ⟨mulB (by omega), _, last_get, i, ixN_tab _ hi, ?_⟩
    rw [last_set, iL_set, tab_set _ _ hi]
    refine for_inv (fun k g M' => M' = M ++ [.lst (iL (tab n.toNat fun m => (gAt n.toNat (s - (ws.length : Int)) ws (fun i => (unitL s l).getD i 0) i m + if m = i then (unitL s l).getD i 0 * (s - (ws.length : Int)) else 0) + hAt n.toNat ws ((unitL s l).getD i 0) i k m))] ∧ ∃ a c d, g = [some (.gm n s ws), some (.tup (iL l)), some (.lst (iL (unitL s l))), a, some (.ptr M.length), some (.int (s - (ws.length : Int))), some (.int (i : Int)), c, d])
      ⟨?_, _, _, _, rfl⟩ ?_ ?_
    · congr 4
      refine tab_congr fun m hm => ?_
      have : hAt n.toNat ws ((unitL s l).getD i 0) i 0 m = 0 := rfl
      rw [this]
      by_cases h : m = i
      · subst h; rw [if_pos rfl, if_pos rfl]; omega
      · rw [if_neg h, if_neg h]; omega
    · rintro k y g2 M2 e2 ⟨rfl, a2, c2, d2, rfl⟩
      rw [iL_get] at e2
      obtain ⟨w, hw, rfl⟩ : ∃ w, ws[k]? = some w ∧ D.int w = y := by
        cases h : ws[k]? with
        | none => rw [h] at e2; cases e2
        | some w => exact ⟨w, rfl, by simpa [h] using e2⟩
      have hw2 := ok.w w (List.mem_of_getElem? hw)
      obtain ⟨j, hj, hj2⟩ : ∃ j : Nat, ((i : Int) + w) % (l.length : Int) = (j : Int) ∧ j < n.toNat := by
        have h1 := Int.emod_nonneg ((i : Int) + w) (by omega : (l.length : Int) ≠ 0)
        have h2 := Int.emod_lt_of_pos ((i : Int) + w) (by omega : 0 < (l.length : Int))
        exact ⟨(((i : Int) + w) % (l.length : Int)).toNat, by omega, by omega⟩
      walk_at "ev"
      refine ⟨by omega, ?_⟩
      rw [hj]
      refine ⟨_, seqOf_ptr last_get, _, atD_tab _ hj2, ?_⟩
      walk_at "ev"
      refine ⟨_, hUi, ?_⟩
      walk_at "ev"
      refine ⟨_, last_get, j, ixN_tab _ hj2, ?_⟩
      rw [last_set, iL_set, tab_set _ _ hj2]
      try walk_at "ev"
      refine ⟨?_, _, rfl⟩
      congr 4
      refine tab_congr fun m hm => ?_
      rw [hAt_succ hw]
      rw [hln] at hj
      by_cases h : m = j
      · subst h; rw [if_pos rfl, if_pos hj]; omega
      · have h6 : ¬ (((i : Int) + w) % ((n.toNat : Nat) : Int) = (m : Int)) := by rw [hj]; omega
        rw [if_neg h, if_neg h6]; omega
    · rintro g2 M2 ⟨rfl, a2, c2, d2, rfl⟩
      try walk_at "ev"
      refine ⟨?_, _, rfl⟩
      congr 4
      refine tab_congr fun m hm => ?_
      rw [gAt_succ hi hm]
  · rintro g1 M1 ⟨rfl, a, b, c, d, rfl⟩
    walk_at "ev"
    refine ⟨_, _, rfl, seqOf_ptr last_get, ?_⟩
    rw [show (rngL 0 (Int.toNat (l.length : Int))).length = n.toNat by rw [← iL_len, rng_len]; omega, gAt_pass ok hl]
    exact .drop rfl (Nat.le_refl _) hM (cln_tL _) q
theorem use_sweets {j : Nat} {n s : Int} {ws : List Int} {m : Int} {M : MS} (hj : M[j]? = some .rng) (ok : GOk n s ws) (h0 : 0 ≤ m) (h1 : m ≤ 10 ^ 30) (hM : ∀ c ∈ M, ClnC c) {X : EK} {k : D → MS → Prop}
    (q : ∀ l : List Int, SwOk n l → (∀ x ∈ l, x ≤ 8 ∨ x ≤ m) → k (.tup (iL l)) M) : sp_law_sweets [.ptr j, .gm n s ws, .int m] M X k :=
  ⟨j, n, s, ws, m, rfl, hj, ok, h0, by have e : (10 : Int) ^ 30 < 2 ^ 199 := by decide
                                       omega, hM, fun l hl hb => q l ⟨hl, fun x hx => by
    have := hb x hx
    have e8 : (8 : Int) ≤ 10 ^ 30 := by decide
    omega⟩ fun x hx => (hb x hx).2⟩
theorem use_round {n s : Int} {ws l : List Int} (ok : GOk n s ws) (hl : (l.length : Int) = n) {M : MS} (hM : ∀ c ∈ M, ClnC c) {X : EK} {k : D → MS → Prop} (q : k (.tup (iL (passL n s ws l))) M) : sp_law_round [.gm n s ws, .tup (iL l)] M X k := ⟨n, s, ws, l, rfl, ok, hl, hM, q⟩
theorem use_pick {j : Nat} {ys : List D} {M : MS} (hj : M[j]? = some .rng) (hy : ys ≠ []) (hl : ys.length < 1000) {X : EK} {k : D → MS → Prop} (q : ∀ y ∈ ys, k y M) : sp_law_pick [.ptr j, .lst ys] M X k := ⟨j, _, ys, rfl, rfl, hj, hy, by omega, q⟩
theorem use_below {j : Nat} {n : Int} {M : MS} (hj : M[j]? = some .rng) (h0 : 0 < n) (h1 : n < 2 ^ 200) {X : EK} {k : D → MS → Prop} (q : ∀ r, 0 ≤ r → r < n → k (.int r) M) : sp_law_below [.ptr j, .int n] M X k := ⟨j, n, rfl, hj, h0, h1, q⟩
theorem use_game {cG : Addr} {j : Nat} {m : Int} {M : MS} (hj : M[j]? = some .rng) (h3 : 3 ≤ m) (h12 : m ≤ 12) (hM : ∀ c ∈ M, ClnC c) {X : EK} {k : D → MS → Prop} (q : ∀ n s ws, GOk n s ws → n ≤ m → k (.gm n s ws) M) : sp_law_game cG [.ptr j, .int m] M X k := ⟨j, m, rfl, hj, h3, h12, hM, q⟩
theorem pz_tup {l : List Int} {n : Int} (h : (l.length : Int) = n) (hn : n ≤ 12) : Pz 4 (.tup (iL l)) := (Pz.tL 0 (by omega)).mono (by decide)
end Sw

namespace Sw
open PySem PySem.Spec PyProof.Rows L2 PD
local macro_rules | `(tactic| walk_at "ev") => `(tactic| simp only [sSeq, sAsg, sRet, sRetN, sIf, sDrop, sNx, sPar, sPar3, gN, gT, gsCons, gsNil, dV, dC, dI, dOp, dUn, dCh, dB, dAnd, dOr, dNot, dAndV, dOrV, dNotV, dIf, dNil, dCons, dTup, dLst, dCB, dCall, dSetLen, sTry, hdlD, dkRun, dkCls, dI0, dI2, rdLen, rdIsi, rdIx, dGet_eq, rdGet_size, rdGet_share, rdGet_ways,
  sFor_eq, dLc_eq, iTp, iLs, iSc, iR1, iR2, iEnT, iEnL, wipeD_nil, wipeD_cons, sOpen, dShut, sBrk, sCnt, sNever, dNeg, dPart, dNoPart, dSl, sAug, sSetL, dApp, dPopAt, dNewL, dNewCat, dToRng, sPut, dMake, finG, sRaise0, sRaise1, sFrz, dNewRep, dNewList, dPop, dStar, dUn,
  rdEq_i, rdNe_i, sI_2, ixN_0, ixN_1, Cell.lst.injEq, rdInt_i, rdInt_b, rdAbs_i, rdMax2_i, eqD_int, eqOk_int, cellD_int, eqD_bl, eqOk_bl, cellD_bl, eqOk_non, seqOf_lst, seqOf_tup, lstOf_lst, atD_0, atD_1, atD_2, List.set_set, cellD_lst, cellD_tup, iL_cons, iL_nil, iL_len,
  startD, bodyN, List.map_cons, List.map_nil, List.length_cons, List.length_nil, List.replicate_succ, List.replicate_zero, List.cons_append, List.nil_append, List.append_nil, List.getElem?_cons_zero, List.getElem?_cons_succ, List.set_cons_zero, List.set_cons_succ, Nat.reduceSub, Nat.reduceAdd, Nat.zero_add,
  Option.some.injEq, exists_eq_left', exists_eq_left, D.int.injEq, D.bl.injEq, D.lst.injEq, D.tup.injEq, D.str.injEq, D.ptr.injEq, D.scr.injEq, D.gm.injEq, List.cons.injEq, and_true, true_and, exists_and_left, exists_and_right, D.ty.injEq, and_assoc, ↓reduceIte, eq_self, Bool.not_true, Bool.not_false, Bool.false_eq_true, decide_true, decide_false])
/-! SwR: rings. -/
def gW (n : Int) (ws : List Int) : Nat := ws.foldl (fun a w => Nat.gcd a w.toNat) n.toNat
theorem fold_dvd : ∀ (ws : List Int) (a : Nat), ws.foldl (fun a w => Nat.gcd a w.toNat) a ∣ a ∧ ∀ w ∈ ws, ws.foldl (fun a w => Nat.gcd a w.toNat) a ∣ w.toNat
  | [], a => ⟨Nat.dvd_refl a, fun w h => by cases h⟩
  | v :: ws, a => by
    obtain ⟨h1, h2⟩ := fold_dvd ws (Nat.gcd a v.toNat)
    refine ⟨Nat.dvd_trans h1 (Nat.gcd_dvd_left ..), fun w hw => ?_⟩
    rcases List.mem_cons.mp hw with rfl | hw
    · exact Nat.dvd_trans h1 (Nat.gcd_dvd_right ..)
    · exact h2 w hw
/-- a set of ints closed under + and - -/
structure Sub (T : Int → Prop) : Prop where
  add : ∀ a b, T a → T b → T (a + b)
  neg : ∀ a, T a → T (-a)
theorem Sub.zero {T : Int → Prop} (h : Sub T) {a : Int} (ha : T a) : T 0 := by
  have := h.add a (-a) ha (h.neg a ha)
  rwa [Int.add_right_neg] at this
theorem Sub.nmul {T : Int → Prop} (h : Sub T) {a : Int} (ha : T a) : ∀ k : Nat, T (a * (k : Int))
  | 0 => by simpa using h.zero ha
  | k + 1 => by
    have := h.add _ _ (h.nmul ha k) ha
    rwa [show a * (k : Int) + a = a * ((k + 1 : Nat) : Int) by rw [Int.natCast_add, Int.mul_add]; simp] at this
theorem Sub.mul {T : Int → Prop} (h : Sub T) {a : Int} (ha : T a) (k : Int) : T (a * k) := by
  rcases Int.eq_nat_or_neg k with ⟨m, rfl | rfl⟩
  · exact h.nmul ha m
  · rw [Int.mul_neg]; exact h.neg _ (h.nmul ha m)
theorem Sub.gcd {T : Int → Prop} (h : Sub T) (m n : Nat) : T (m : Int) → T (n : Int) → T ((Nat.gcd m n : Nat) : Int) := by
  induction m, n using Nat.gcd.induction with
  | H0 n => intro _ hn; rw [Nat.gcd_zero_left]; exact hn
  | H1 m n hm ih =>
    intro h1 h2
    rw [Nat.gcd_rec]
    refine ih ?_ h1
    have e : ((n % m : Nat) : Int) = (n : Int) + -((m : Int) * ((n : Int) / (m : Int))) := by
      rw [Int.natCast_emod, Int.emod_def]; omega
    rw [e]
    exact h.add _ _ h2 (h.neg _ (h.mul h1 _))
theorem Sub.fold {T : Int → Prop} (h : Sub T) : ∀ (ws : List Int) (a : Nat), T (a : Int) → (∀ w ∈ ws, 0 ≤ w ∧ T w) → T ((ws.foldl (fun a w => Nat.gcd a w.toNat) a : Nat) : Int)
  | [], a, ha, _ => ha
  | v :: ws, a, ha, hw => by
    have hv := hw v List.mem_cons_self
    refine h.fold ws _ (h.gcd _ _ ha ?_) fun w hw' => hw w (List.mem_cons_of_mem _ hw')
    rw [Int.toNat_of_nonneg hv.1]
    exact hv.2
section
variable {n s : Int} {ws : List Int}
theorem gW_dvd (ok : GOk n s ws) : ((gW n ws : Nat) : Int) ∣ n ∧ (∀ w ∈ ws, ((gW n ws : Nat) : Int) ∣ w) ∧ 0 < gW n ws ∧ ((gW n ws : Nat) : Int) ≤ n := by
  have h2 := ok.n2
  obtain ⟨h3, h4⟩ := fold_dvd ws n.toNat
  have e : ((n.toNat : Nat) : Int) = n := by omega
  refine ⟨by rw [← e]; exact Int.natCast_dvd_natCast.mpr h3, fun w hw => ?_, Nat.pos_of_dvd_of_pos h3 (by omega), ?_⟩
  · have := h4 w hw
    have hw2 := ok.w w hw
    rw [show w = ((w.toNat : Nat) : Int) by omega]
    exact Int.natCast_dvd_natCast.mpr this
  · have := Nat.le_of_dvd (by omega : 0 < n.toNat) h3
    show ((gW n ws : Nat) : Int) ≤ n
    unfold gW
    omega
/-- a closed set of places -/
structure Cl (n : Int) (ws : List Int) (S : Int → Prop) : Prop where
  rg : ∀ x, S x → 0 ≤ x ∧ x < n
  cl : ∀ x, S x → ∀ w ∈ ws, S ((x + w) % n)
theorem Cl.sub {S : Int → Prop} (c : Cl n ws S) (hn : 0 < n) : Sub fun d => ∀ x, S x → S ((x + d) % n) := by
  have add : ∀ a b : Int, (∀ x, S x → S ((x + a) % n)) → (∀ x, S x → S ((x + b) % n)) → ∀ x, S x → S ((x + (a + b)) % n) := fun a b ha hb x hx => by
    have h := hb _ (ha x hx)
    rwa [Int.emod_add_emod, Int.add_assoc] at h
  refine ⟨add, fun a ha x hx => ?_⟩
  have nm : ∀ k : Nat, ∀ x, S x → S ((x + a * (k : Int)) % n) := fun k => by
    induction k with
    | zero =>
      intro x hx
      have := c.rg x hx
      simpa [Int.emod_eq_of_lt this.1 this.2] using hx
    | succ k ih =>
      have := add _ _ ih ha
      rwa [show a * (k : Int) + a = a * ((k + 1 : Nat) : Int) by rw [Int.natCast_add, Int.mul_add]; simp] at this
  have h := nm (n.toNat - 1) x hx
  have e : x + a * ((n.toNat - 1 : Nat) : Int) = x + -a + n * a := by
    rw [show ((n.toNat - 1 : Nat) : Int) = n - 1 by omega, Int.mul_sub, Int.mul_comm a n]; omega
  rwa [e, Int.add_mul_emod_self_left] at h
/-- a closed set holds with a place all that are alike to it -/
theorem Cl.all (ok : GOk n s ws) {S : Int → Prop} (c : Cl n ws S) {x y : Int} (hx : S x) (h0 : 0 ≤ y) (h1 : y < n) (h : y % ((gW n ws : Nat) : Int) = x % ((gW n ws : Nat) : Int)) : S y := by
  have hn : 0 < n := by have := ok.n2; omega
  have sb := c.sub hn
  have T := Sub.fold sb ws n.toNat (fun x hx => by
    have := c.rg x hx
    rw [show ((n.toNat : Nat) : Int) = n by omega, Int.add_emod_right, Int.emod_eq_of_lt this.1 this.2]
    exact hx) fun w hw => ⟨by have := ok.w w hw; omega, fun x hx => c.cl x hx w hw⟩
  have hd : ((gW n ws : Nat) : Int) ∣ y - x := Int.dvd_of_emod_eq_zero (by rw [Int.sub_emod, h, Int.sub_self, Int.zero_emod])
  obtain ⟨k, hk⟩ := hd
  have h2 := sb.mul T k x hx
  have e : x + ((ws.foldl (fun a w => Nat.gcd a w.toNat) n.toNat : Nat) : Int) * k = y := by
    have : ((gW n ws : Nat) : Int) * k = ((ws.foldl (fun a w => Nat.gcd a w.toNat) n.toNat : Nat) : Int) * k := rfl
    rw [← this, ← hk]; omega
  rwa [e, Int.emod_eq_of_lt h0 h1] at h2
end
/-! ### lists of places -/
theorem pigeon : ∀ (n : Nat) (l : List Int), l.Nodup → (∀ x ∈ l, 0 ≤ x ∧ x < (n : Int)) → l.length ≤ n
  | 0, l, _, h => by
    cases l with
    | nil => exact Nat.le_refl _
    | cons x l => have := h x List.mem_cons_self; omega
  | n + 1, l, hd, h => by
    by_cases hm : (n : Int) ∈ l
    · have h1 := pigeon n (l.erase (n : Int)) (hd.erase _) fun x hx => by
        have hx2 := List.Nodup.mem_erase_iff hd |>.mp hx
        have := h x hx2.2
        have := hx2.1
        omega
      rw [List.length_erase_of_mem hm] at h1
      omega
    · have := pigeon n l hd fun x hx => by
        have h1 := h x hx
        have : x ≠ (n : Int) := fun e => hm (e ▸ hx)
        omega
      omega
theorem sorted_eq : ∀ {a b : List Int}, a.Pairwise (· < ·) → b.Pairwise (· < ·) → (∀ x, x ∈ a ↔ x ∈ b) → a = b
  | [], [], _, _, _ => rfl
  | [], y :: b, _, _, h => absurd ((h y).mpr List.mem_cons_self) (by simp)
  | x :: a, [], _, _, h => absurd ((h x).mp List.mem_cons_self) (by simp)
  | x :: a, y :: b, ha, hb, h => by
    rw [List.pairwise_cons] at ha hb
    have exy : x = y := by
      rcases List.mem_cons.mp ((h x).mp List.mem_cons_self) with e | e
      · exact e
      · rcases List.mem_cons.mp ((h y).mpr List.mem_cons_self) with e2 | e2
        · exact e2.symm
        · have h1 := ha.1 y e2
          have h2 := hb.1 x e
          omega
    subst exy
    rw [sorted_eq ha.2 hb.2 fun z => ?_]
    constructor
    · intro hz
      rcases List.mem_cons.mp ((h z).mp (List.mem_cons_of_mem _ hz)) with e | e
      · have := ha.1 z hz; omega
      · exact e
    · intro hz
      rcases List.mem_cons.mp ((h z).mpr (List.mem_cons_of_mem _ hz)) with e | e
      · have := hb.1 z hz; omega
      · exact e
def ringL (n : Int) (g : Nat) (f : Nat) : List Int := rngC (f : Int) (g : Int) ((n - f + g - 1) / g).toNat
theorem ringL_lt {n : Int} {g f : Nat} (hg : 0 < g) : (ringL n g f).Pairwise (· < ·) := by
  unfold ringL rngC
  rw [List.pairwise_map]
  refine List.Pairwise.imp ?_ List.pairwise_lt_range
  intro a b h
  have : (a : Int) * (g : Int) < (b : Int) * (g : Int) := Int.mul_lt_mul_of_pos_right (by omega) (by omega)
  omega
theorem mem_ringL {n : Int} {g f : Nat} (hg : 0 < g) (hfg : f < g) (hfn : (f : Int) < n) (x : Int) : x ∈ ringL n g f ↔ 0 ≤ x ∧ x < n ∧ x % (g : Int) = (f : Int) := by
  unfold ringL rngC
  rw [List.mem_map]
  have key : ∀ i : Int, 0 ≤ i → (i < (n - f + g - 1) / g ↔ (f : Int) + i * g < n) := fun i hi => by
    have h1 := Int.le_ediv_iff_mul_le (a := i + 1) (b := n - f + g - 1) (c := (g : Int)) (by omega)
    rw [Int.add_mul, Int.one_mul] at h1
    constructor
    · intro h; have := h1.mp (by omega); omega
    · intro h; have := h1.mpr (by omega); omega
  constructor
  · rintro ⟨i, hi, rfl⟩
    have hi := List.mem_range.mp hi
    have h1 := (key (i : Int) (by omega)).mp (by omega)
    have h2 : 0 ≤ (i : Int) * (g : Int) := Int.mul_nonneg (by omega) (by omega)
    refine ⟨by omega, h1, ?_⟩
    rw [Int.add_mul_emod_self_right, Int.emod_eq_of_lt (by omega) (by omega)]
  · rintro ⟨h0, h1, h2⟩
    have hdef := Int.emod_def x (g : Int)
    have hq : 0 ≤ x / (g : Int) := Int.ediv_nonneg h0 (by omega)
    refine ⟨(x / (g : Int)).toNat, ?_, ?_⟩
    · rw [List.mem_range]
      have := (key (x / (g : Int)) hq).mpr (by rw [Int.mul_comm]; omega)
      omega
    · rw [Int.toNat_of_nonneg hq, Int.mul_comm]; omega
theorem rg_tab : ∀ n : Fin 13, ∀ g : Fin 13, ∀ f : Fin 13, 0 < g.1 → f.1 < g.1 → g.1 ≤ n.1 → Builtin.Range.small (f.1 : Int) (n.1 : Int) (g.1 : Int) = true ∧ Builtin.Range.rangeSize (f.1 : Int) (n.1 : Int) (g.1 : Int) = (((n.1 : Int) - f.1 + g.1 - 1) / g.1).toNat ∧ (((n.1 : Int) - f.1 + g.1 - 1) / g.1).toNat ≤ 12 := by decide +kernel
theorem rg_ok {n : Int} {g f : Nat} (hg : 0 < g) (hfg : f < g) (hgn : (g : Int) ≤ n) (hn : n ≤ 12) : RgC (f : Int) n (g : Int) ((n - f + g - 1) / g).toNat ∧ ((n - f + g - 1) / g).toNat ≤ 12 := by
  have h := rg_tab ⟨n.toNat, by omega⟩ ⟨g, by omega⟩ ⟨f, by omega⟩ hg hfg (by show g ≤ n.toNat; omega)
  have e : ((n.toNat : Nat) : Int) = n := by omega
  dsimp only at h
  rw [e] at h
  exact ⟨⟨by omega, by omega, h.1, h.2.1⟩, h.2.2⟩
abbrev sp_divisor : DSp := fun xs M X k => ∃ a b : Nat, xs = [.int (a : Int), .int (b : Int)] ∧ k (.int ((Nat.gcd a b : Nat) : Int)) M
abbrev d_divisor : DS := (sSeq (sWhile (dB (dOp rdNe (dV 1) (dI 0))) (sPar 0 1 (dCons (dV 1) (dCons (dOp rdMod (dV 0) (dV 1)) dNil)))) (sRet (dV 0)))
--  2 ['one', 'other']
theorem pure_divisor : ∀ ys M X P, sp_divisor ys M X P → d_divisor (startD 2 ys) M (bodyN M.length X P) := by
  rintro ys M X P ⟨a, b, rfl, q⟩
  unfold d_divisor
  walk_at "ev"
  refine ⟨fun m g M' => M' = M ∧ ∃ a2 b2 : Nat, m = b2 ∧ Nat.gcd a2 b2 = Nat.gcd a b ∧ g = [some (.int (a2 : Int)), some (.int (b2 : Int))], ⟨b, rfl, a, b, rfl, rfl, rfl⟩, ?_⟩
  rintro m g M1 ⟨rfl, a2, b2, rfl, hg, rfl⟩
  walk_at "ev"
  by_cases h : (m : Int) = 0
  · rw [decide_eq_true h]
    try walk_at "ev"
    have : m = 0 := by omega
    subst this
    rw [Nat.gcd_zero_right] at hg
    rw [hg]
    exact .same q
  · rw [decide_eq_false h]
    try walk_at "ev"
    refine ⟨by omega, a2 % m, Nat.mod_lt _ (by omega), m, ?_, rfl, Int.natCast_emod .. |>.symm⟩
    rw [← hg, Nat.gcd_comm m, ← Nat.gcd_rec, Nat.gcd_comm]
def ringsD (n : Int) (g : Nat) : List D := (List.range g).map fun f => .tup (iL (ringL n g f))
abbrev sp_rings_of : DSp := fun xs M X k => ∃ n s ws, xs = [.gm n s ws] ∧ GOk n s ws ∧ (∀ c ∈ M, ClnC c) ∧ k (.lst (ringsD n (gW n ws))) M
abbrev d_rings_of : DS := (sSeq (sAsg (dGet "size" (dV 0)) (gN 1)) (sSeq (sFor (iTp (dGet "ways" (dV 0))) (gN 2) (sAsg (dCall sp_divisor [] (dCons (dV 1) (dCons (dV 2) dNil))) (gN 1))) (sRet (dLc (iR1 (dCons (dV 1) dNil)) (gN 3) dYes (dCB rdTup (dCons (dLR3 (dCons (dV 3) (dCons (dGet "size" (dV 0)) (dCons (dV 1) dNil)))) dNil)) [3]))))
--  4 ['game', 'common', 'step', 'first']
theorem pure_rings_of : ∀ ys M X P, sp_rings_of ys M X P → d_rings_of (startD 4 ys) M (bodyN M.length X P) := by
  rintro ys M X P ⟨n, s, ws, rfl, ok, hM, q⟩
  have h2 := ok.n2
  have h12 := ok.n12
  obtain ⟨g1, g2, g3, g4⟩ := gW_dvd ok
  unfold d_rings_of
  walk_at "ev"
  refine for_inv (fun i g M' => M' = M ∧ ∃ a, g = [some (.gm n s ws), some (.int ((((ws.take i).foldl (fun a w => Nat.gcd a w.toNat) n.toNat : Nat)) : Int)), a, none]) ⟨rfl, none, by simp; omega⟩ ?_ ?_
  · rintro i y g1 M1 e ⟨rfl, a, rfl⟩
    rw [iL_get] at e
    obtain ⟨w, hw, rfl⟩ : ∃ w, ws[i]? = some w ∧ D.int w = y := by
      cases h : ws[i]? with
      | none => rw [h] at e; cases e
      | some w => exact ⟨w, rfl, by simpa [h] using e⟩
    have hw2 := ok.w w (List.mem_of_getElem? hw)
    try walk_at "ev"
    refine ⟨(ws.take i).foldl (fun a w => Nat.gcd a w.toNat) n.toNat, w.toNat, by rw [Int.toNat_of_nonneg (by omega)], ?_⟩
    try walk_at "ev"
    refine ⟨?_, _, rfl⟩
    rw [List.take_add_one, hw, List.foldl_append]
    rfl
  · rintro g0 M1 ⟨rfl, a, rfl⟩
    rw [iL_len, List.take_length]
    have eg : ws.foldl (fun a w => Nat.gcd a w.toNat) n.toNat = gW n ws := rfl
    rw [eg]
    try walk_at "ev"
    refine ⟨by omega, by omega, lc_map (fun y => .tup (iL (ringL n (gW n ws) (intD y).toNat))) hM (by rw [rng_len, sizeLine_val]; omega) (fun y hy => cln_tL _) ?_ ?_⟩
    · intro y hy acc _ Q hQ
      obtain ⟨f, hf⟩ := List.mem_iff_getElem?.mp hy
      obtain ⟨hf2, rfl⟩ := rng_get _ _ _ hf
      unfold dLR3
      try walk_at "ev"
      have hrg := rg_ok (f := f) g3 (by omega) g4 h12
      exact ⟨_, hrg.1, Nat.le_trans hrg.2 (by decide), _, _, rfl, rfl, hQ⟩
    · have e : (iL (rngL 0 (Int.toNat ((gW n ws : Nat) : Int)))).map (fun y => D.tup (iL (ringL n (gW n ws) (intD y).toNat))) = ringsD n (gW n ws) := by
        unfold iL rngL ringsD
        rw [List.map_map, List.map_map, Int.toNat_natCast]
        refine List.map_congr_left fun f hf => ?_
        show D.tup (iL (ringL n (gW n ws) (0 + (f : Int)).toNat)) = _
        rw [Int.zero_add, Int.toNat_natCast]
      rw [e]
      exact .same q
abbrev sp_rings : DSp := sp_rings_of
abbrev d_rings : DS := (sRet (dCall sp_rings_of [] (dCons (dV 0) dNil)))
--  1 ['game']
theorem pure_rings : ∀ ys M X P, sp_rings ys M X P → d_rings (startD 1 ys) M (bodyN M.length X P) := by
  rintro ys M X P ⟨n, s, ws, rfl, ok, hM, q⟩
  unfold d_rings
  walk_at "ev"
  exact ⟨n, s, ws, rfl, ok, hM, .same q⟩
theorem inD_i (o : Int) : ∀ l : List Int, inD (.int o) (iL l) = decide (o ∈ l)
  | [] => rfl
  | x :: l => by
    show (eqD (.int x) (.int o) || inD (.int o) (iL l)) = _
    rw [inD_i o l, eqD_int]
    by_cases h : x = o
    · subst h; simp
    · have h2 : ¬ o = x := fun e => h e.symm
      by_cases h3 : o ∈ l <;> simp [h, h2, h3]
theorem flD_iL (l : List Int) : (iL l).all flD = true := by
  rw [List.all_eq_true]
  intro d hd
  obtain ⟨i, _, rfl⟩ := List.mem_map.mp hd
  rfl
theorem rdIn_i (o : Int) (l : List Int) (M : MS) (k : D → Prop) : rdIn (.int o) (.lst (iL l)) M k = k (.bl (decide (o ∈ l))) := by
  refine propext ⟨?_, fun q => ⟨iL l, rfl, rfl, flD_iL l, by rw [inD_i]; exact q⟩⟩
  rintro ⟨xs, e, _, _, q⟩
  cases e
  rw [inD_i] at q
  exact q
structure OwnOk (n : Int) (ws : List Int) (f : Int) (own : List Int) : Prop where
  nd : own.Nodup
  rg : ∀ x ∈ own, 0 ≤ x ∧ x < n
  hd : f ∈ own
  cg : ∀ x ∈ own, x % ((gW n ws : Nat) : Int) = f % ((gW n ws : Nat) : Int)
def Done (n : Int) (ws : List Int) (own : List Int) (c : Nat) : Prop := ∀ i, i < c → ∀ x, own[i]? = some x → ∀ w ∈ ws, (x + w) % n ∈ own
section
variable {n s : Int} {ws : List Int} {f : Int} {own : List Int}
theorem OwnOk.len (ok : GOk n s ws) (o : OwnOk n ws f own) : own.length ≤ n.toNat := by
  have := ok.n2
  exact pigeon n.toNat own o.nd fun x hx => by have := o.rg x hx; omega
theorem OwnOk.more (ok : GOk n s ws) (o : OwnOk n ws f own) {x w : Int} (hx : x ∈ own) (hw : w ∈ ws) (hn : (x + w) % n ∉ own) : OwnOk n ws f (own ++ [(x + w) % n]) := by
  have h2 := ok.n2
  obtain ⟨g1, g2, g3, g4⟩ := gW_dvd ok
  refine ⟨?_, fun y hy => ?_, List.mem_append_left _ o.hd, fun y hy => ?_⟩
  · rw [List.nodup_append]
    refine ⟨o.nd, by simp, fun a ha b hb => ?_⟩
    rw [List.mem_singleton] at hb
    subst hb
    exact fun e => hn (e ▸ ha)
  · rcases List.mem_append.mp hy with h | h
    · exact o.rg y h
    · rw [List.mem_singleton] at h
      subst h
      exact ⟨Int.emod_nonneg _ (by omega), Int.emod_lt_of_pos _ (by omega)⟩
  · rcases List.mem_append.mp hy with h | h
    · exact o.cg y h
    · rw [List.mem_singleton] at h
      subst h
      rw [Int.emod_emod_of_dvd _ g1, Int.add_emod, Int.emod_eq_zero_of_dvd (g2 w hw), Int.add_zero, Int.emod_emod_of_dvd _ (Int.dvd_refl _)]
      exact o.cg x hx
theorem OwnOk.mem (ok : GOk n s ws) (o : OwnOk n ws f own) {c : Nat} (hc : n.toNat ≤ c) (d : Done n ws own c) (x : Int) : x ∈ own ↔ 0 ≤ x ∧ x < n ∧ x % ((gW n ws : Nat) : Int) = f % ((gW n ws : Nat) : Int) := by
  have cl : Cl n ws (fun x => x ∈ own) := ⟨o.rg, fun x hx w hw => by
    obtain ⟨i, hi⟩ := List.mem_iff_getElem?.mp hx
    have h1 := (List.getElem?_eq_some_iff.mp hi).1
    have h2 := o.len ok
    exact d i (by omega) x hi w hw⟩
  constructor
  · intro hx
    exact ⟨(o.rg x hx).1, (o.rg x hx).2, o.cg x hx⟩
  · rintro ⟨h0, h1, h2⟩
    exact cl.all ok o.hd h0 h1 h2
/-- the smallest of its ring -/
theorem OwnOk.least (ok : GOk n s ws) {f : Nat} (hfn : (f : Int) < n) (o : OwnOk n ws (f : Int) own) {c : Nat} (hc : n.toNat ≤ c) (d : Done n ws own c) : lmin own = (f : Int) ↔ f < gW n ws := by
  obtain ⟨g1, g2, g3, g4⟩ := gW_dvd ok
  have hne : own ≠ [] := List.ne_nil_of_mem o.hd
  have hm := o.mem ok hc d
  constructor
  · intro h
    by_cases hf : f < gW n ws
    · exact hf
    · exfalso
      have h1 : (f : Int) % ((gW n ws : Nat) : Int) ∈ own := (hm _).mpr ⟨Int.emod_nonneg _ (by omega), by have := Int.emod_lt_of_pos (f : Int) (by omega : 0 < ((gW n ws : Nat) : Int)); omega, Int.emod_emod_of_dvd _ (Int.dvd_refl _)⟩
      have h2 := lmin_le h1
      have h3 := Int.emod_lt_of_pos (f : Int) (by omega : 0 < ((gW n ws : Nat) : Int))
      omega
  · intro h
    have h1 := lmin_le o.hd
    have h2 := (hm _).mp (lmin_mem hne)
    rw [Int.emod_eq_of_lt (by omega : 0 ≤ (f : Int)) (by omega)] at h2
    have h3 : lmin own % ((gW n ws : Nat) : Int) ≤ lmin own := by
      have h5 := Int.emod_def (lmin own) ((gW n ws : Nat) : Int)
      have h6 : 0 ≤ lmin own / ((gW n ws : Nat) : Int) := Int.ediv_nonneg h2.1 (by omega)
      have h7 : 0 ≤ ((gW n ws : Nat) : Int) * (lmin own / ((gW n ws : Nat) : Int)) := Int.mul_nonneg (by omega) h6
      omega
    omega
theorem OwnOk.sorted (ok : GOk n s ws) {f : Nat} (hfg : f < gW n ws) (hfn : (f : Int) < n) (o : OwnOk n ws (f : Int) own) {c : Nat} (hc : n.toNat ≤ c) (d : Done n ws own c) {l : List Int} (hp : l.Perm own) (hs : l.Pairwise (· ≤ ·)) : l = ringL n (gW n ws) f := by
  have hm := o.mem ok hc d
  refine sorted_eq ?_ (ringL_lt (by omega)) fun x => ?_
  · have hnd := hp.nodup_iff.mpr o.nd
    refine List.Pairwise.imp₂ (fun a b h1 h2 => ?_) hs hnd
    have h2 : a ≠ b := h2
    omega
  · rw [hp.mem_iff, hm, mem_ringL (by omega) hfg hfn, Int.emod_eq_of_lt (by omega : 0 ≤ (f : Int)) (by omega)]
end
abbrev sp_law_rings : DSp := sp_rings_of
abbrev d_law_rings : DS := (sSeq (sPar 1 2 (dCons (dGet "size" (dV 0)) (dCons (dNewL dNil) dNil))) (sSeq (sFor (iR1 (dCons (dV 1) dNil)) (gN 3) (sSeq (sAsg (dLst (dCons (dV 3) dNil)) (gN 4)) (sSeq (sFor (iR1 (dCons (dOp rdMul (dV 1) (dV 1)) dNil)) (gN 5) (sIf (dB (dOp rdLt (dV 5) (dCB rdLen (dCons (dV 4) dNil)))) (sFor (iTp (dGet "ways" (dV 0))) (gN 6) (sSeq (sAsg (dOp rdMod (dOp rdAdd (dOp rdIx (dV 4) (dV 5)) (dV 6)) (dV 1)) (gN 7)) (sAsg (dIf (dB (dOp rdIn (dV 7) (dV 4))) (dV 4) (dOp rdCat (dV 4) (dLst (dCons (dV 7) dNil)))) (gN 4)))) sNx)) (sIf (dB (dOp rdEq (dCB rdMin (dCons (dV 4) dNil)) (dV 3))) (sDrop (dApp (dV 2) (dCB rdTup (dCons (dCB rdSort (dCons (dV 4) dNil)) dNil)))) sNx)))) (sFrz 2 (sRet (dV 2)))))
--  8 ['_law_game_here', '_law_n', '_law_found', '_law_first', '_law_own', '_law_child', '_law_step', '_law_other']
theorem pure_law_rings : ∀ ys M X P, sp_law_rings ys M X P → d_law_rings (startD 8 ys) M (bodyN M.length X P) := by
  rintro ys M X P ⟨n, s, ws, rfl, ok, hM, q⟩
  have h2 := ok.n2
  have h12 := ok.n12
  obtain ⟨g1, g2, g3, g4⟩ := gW_dvd ok
  unfold d_law_rings
  walk_at "ev"
  refine ⟨by decide, by omega, by omega, ?_⟩
  have hgN : gW n ws ≤ n.toNat := by omega
  refine for_inv (fun i g M' => M' = M ++ [.lst ((ringsD n (gW n ws)).take i)] ∧ ∃ a b c d e, g = [some (.gm n s ws), some (.int n), some (.ptr M.length), a, b, c, d, e]) ⟨rfl, _, _, _, _, _, rfl⟩ ?_ ?_
  · rintro f y g1 M1 ef ⟨rfl, a, b, c, d, e, rfl⟩
    obtain ⟨hf, rfl⟩ := rng_get _ _ _ ef
    have hfn : (f : Int) < n := by omega
    walk_at "ev"
    have hnn : n * n ≤ 144 := by
      have h1 : n * n ≤ 12 * n := Int.mul_le_mul_of_nonneg_right h12 (by omega)
      omega
    have hnn0 : n ≤ n * n := by
      have h1 : 1 * n ≤ n * n := Int.mul_le_mul_of_nonneg_right (by omega) (by omega)
      omega
    refine ⟨by decide, mulB (by omega), by omega, by omega, ?_⟩
    refine for_inv (fun i g M' => M' = M ++ [.lst ((ringsD n (gW n ws)).take f)] ∧ ∃ own c d e, OwnOk n ws (f : Int) own ∧ Done n ws own i ∧ g = [some (.gm n s ws), some (.int n), some (.ptr M.length), some (.int (f : Int)), some (.lst (iL own)), c, d, e])
      ⟨rfl, [(f : Int)], _, _, _, ⟨by simp, fun x hx => by (rw [List.mem_singleton] at hx; omega), by simp, fun x hx => by (rw [List.mem_singleton] at hx; rw [hx])⟩, fun i hi => by omega, rfl⟩ ?_ ?_
    · rintro i y g2 M2 ei ⟨rfl, own, c2, d2, e2, oo, dn, rfl⟩
      obtain ⟨hi, rfl⟩ := rng_get _ _ _ ei
      have hol := oo.len ok
      walk_at "ev"
      by_cases hlt : (i : Int) < (own.length : Int)
      · rw [decide_eq_true hlt]
        try walk_at "ev"
        obtain ⟨x, hx⟩ : ∃ x, own[i]? = some x := ⟨own[i]'(by omega), List.getElem?_eq_getElem (by omega)⟩
        refine for_inv (fun k g M' => M' = M ++ [.lst ((ringsD n (gW n ws)).take f)] ∧ ∃ own2 d e, OwnOk n ws (f : Int) own2 ∧ Done n ws own2 i ∧ own2[i]? = some x ∧ (∀ w ∈ ws.take k, (x + w) % n ∈ own2) ∧ g = [some (.gm n s ws), some (.int n), some (.ptr M.length), some (.int (f : Int)), some (.lst (iL own2)), some (.int (i : Int)), d, e])
          ⟨rfl, own, _, _, oo, dn, hx, fun w hw => by simp at hw, rfl⟩ ?_ ?_
        · rintro k y g3 M3 ek ⟨rfl, own2, d3, e3, oo2, dn2, hx2, hw2, rfl⟩
          rw [iL_get] at ek
          obtain ⟨w, hw, rfl⟩ : ∃ w, ws[k]? = some w ∧ D.int w = y := by
            cases h : ws[k]? with
            | none => rw [h] at ek; cases ek
            | some w => exact ⟨w, rfl, by simpa [h] using ek⟩
          have hwm := List.mem_of_getElem? hw
          have hxm := List.mem_of_getElem? hx2
          walk_at "ev"
          refine ⟨.int x, by rw [atD_nat, iL_get, hx2]; rfl, x, rfl, by omega, ?_⟩
          rw [rdIn_i]
          by_cases hin : (x + w) % n ∈ own2
          · rw [decide_eq_true hin]
            try walk_at "ev"
            refine ⟨own2, oo2, dn2, hx2, fun v hv => ?_, rfl, _, rfl⟩
            rw [List.take_add_one, hw] at hv
            rcases List.mem_append.mp hv with h | h
            · exact hw2 v h
            · simp at h; subst h; exact hin
          · rw [decide_eq_false hin]
            try walk_at "ev"
            have oo3 := oo2.more ok hxm hwm hin
            have hl3 := oo3.len ok
            refine ⟨by decide, iL own2, [.int ((x + w) % n)], rfl, rfl, by rw [iL_len, sizeLine_val]; have := oo2.len ok; simp; omega, ?_⟩
            try walk_at "ev"
            refine ⟨own2 ++ [(x + w) % n], oo3, fun m hm z hz v hv => ?_, ?_, fun v hv => ?_, ?_, _, rfl⟩
            · rw [List.getElem?_append_left (by have := (List.getElem?_eq_some_iff.mp hx2).1; omega)] at hz
              exact List.mem_append_left _ (dn2 m hm z hz v hv)
            · rw [List.getElem?_append_left (List.getElem?_eq_some_iff.mp hx2).1]
              exact hx2
            · rw [List.take_add_one, hw] at hv
              rcases List.mem_append.mp hv with h | h
              · exact List.mem_append_left _ (hw2 v h)
              · simp at h; subst h; simp
            · rw [← iL_app]; rfl
        · rintro g3 M3 ⟨rfl, own2, d3, e3, oo2, dn2, hx2, hw2, rfl⟩
          rw [iL_len, List.take_length] at hw2
          refine ⟨rfl, own2, oo2, fun m hm z hz v hv => ?_, _, _, _, rfl⟩
          by_cases hmi : m = i
          · subst hmi
            rw [hx2] at hz
            cases hz
            exact hw2 v hv
          · exact dn2 m (by omega) z hz v hv
      · rw [decide_eq_false hlt]
        try walk_at "ev"
        refine ⟨own, oo, fun m hm z hz v hv => ?_, rfl, _, rfl⟩
        have := (List.getElem?_eq_some_iff.mp hz).1
        exact dn m (by omega) z hz v hv
    · rintro g2 M2 ⟨rfl, own, c2, d2, e2, oo, dn, rfl⟩
      rw [rng_len] at dn
      have hc : n.toNat ≤ (n * n).toNat := by omega
      have hleast := oo.least ok hfn hc dn
      walk_at "ev"
      refine ⟨_, own, rfl, lstOf_lst _ _, List.ne_nil_of_mem oo.hd, ?_⟩
      try walk_at "ev"
      by_cases hfg : f < gW n ws
      · rw [decide_eq_true (hleast.mpr hfg)]
        try walk_at "ev"
        refine ⟨⟨_, last_get⟩, _, own, rfl, lstOf_lst _ _, by have := oo.len ok; omega, fun l' hp hs => ?_⟩
        have el := oo.sorted ok hfg hfn hc dn hp hs
        subst el
        try walk_at "ev"
        refine ⟨_, _, rfl, seqOf_lst _ _, ?_⟩
        try walk_at "ev"
        have htl : ((ringsD n (gW n ws)).take f).length < sizeLine := by rw [List.length_take, sizeLine_val]; omega
        refine ⟨_, last_get, htl, ?_⟩
        rw [last_set]
        refine ⟨?_, _, rfl⟩
        have e1 : (ringsD n (gW n ws))[f]? = some (.tup (iL (ringL n (gW n ws) f))) := by unfold ringsD; rw [List.getElem?_map, List.getElem?_range hfg]; rfl
        rw [List.take_add_one, e1]
        rfl
      · rw [decide_eq_false (fun h => hfg (hleast.mp h))]
        try walk_at "ev"
        refine ⟨?_, _, rfl⟩
        have hl : (ringsD n (gW n ws)).length = gW n ws := by unfold ringsD; rw [List.length_map, List.length_range]
        rw [List.take_of_length_le (by omega), List.take_of_length_le (by omega)]
  · rintro g1 M1 ⟨rfl, a, b, c, d, e, rfl⟩
    rw [rng_len]
    walk_at "ev"
    refine ⟨_, last_get, ?_⟩
    rw [last_set]
    have hl : (ringsD n (gW n ws)).length = gW n ws := by unfold ringsD; rw [List.length_map, List.length_range]
    rw [List.take_of_length_le (by omega)]
    refine .drop rfl (Nat.le_refl _) hM (.lst fun d hd => ?_) q
    obtain ⟨f, _, rfl⟩ := List.mem_map.mp hd
    exact cln_tL _
end Sw

namespace Sw
open PySem PySem.Spec PyProof.Rows L2 PD
local macro_rules | `(tactic| walk_at "ev") => `(tactic| simp only [sSeq, sAsg, sRet, sRetN, sIf, sDrop, sNx, sPar, sPar3, gN, gT, gsCons, gsNil, dV, dC, dI, dOp, dUn, dCh, dB, dAnd, dOr, dNot, dAndV, dOrV, dNotV, dIf, dNil, dCons, dTup, dLst, dCB, dCall, dSetLen, sTry, hdlD, dkRun, dkCls, dI0, dI2, rdLen, rdIsi, rdIx, dGet_eq, rdGet_size, rdGet_share, rdGet_ways,
  sFor_eq, dLc_eq, iTp, iLs, iSc, iR1, iR2, iEnT, iEnL, wipeD_nil, wipeD_cons, sOpen, dShut, sBrk, sCnt, sNever, dNeg, dPart, dNoPart, dSl, sAug, sSetL, dApp, dPopAt, dNewL, dNewCat, dToRng, sPut, dMake, finG, sRaise0, sRaise1, sFrz, dNewRep, dNewList, dPop, dStar, dUn,
  rdEq_i, rdNe_i, sI_2, ixN_0, ixN_1, Cell.lst.injEq, rdInt_i, rdInt_b, rdAbs_i, rdMax2_i, eqD_int, eqOk_int, cellD_int, eqD_bl, eqOk_bl, cellD_bl, eqOk_non, seqOf_lst, seqOf_tup, lstOf_lst, atD_0, atD_1, atD_2, List.set_set, cellD_lst, cellD_tup, iL_cons, iL_nil, iL_len,
  startD, bodyN, List.map_cons, List.map_nil, List.length_cons, List.length_nil, List.replicate_succ, List.replicate_zero, List.cons_append, List.nil_append, List.append_nil, List.getElem?_cons_zero, List.getElem?_cons_succ, List.set_cons_zero, List.set_cons_succ, Nat.reduceSub, Nat.reduceAdd, Nat.zero_add,
  Option.some.injEq, exists_eq_left', exists_eq_left, D.int.injEq, D.bl.injEq, D.lst.injEq, D.tup.injEq, D.str.injEq, D.ptr.injEq, D.scr.injEq, D.gm.injEq, List.cons.injEq, and_true, true_and, exists_and_left, exists_and_right, D.ty.injEq, and_assoc, ↓reduceIte, eq_self, Bool.not_true, Bool.not_false, Bool.false_eq_true, decide_true, decide_false])
/-! SwS: rows that stand still. -/
def vl (l : List Int) (x : Int) : Int := l.getD x.toNat 0
def un (s : Int) (l : List Int) (x : Int) : Int := fillN s (vl l x) / s
theorem un_eq {s : Int} (h : 2 ≤ s) (l : List Int) (x : Int) : un s l x * s = fillN s (vl l x) := by
  unfold un fillN
  rw [Int.mul_ediv_cancel _ (by omega)]
theorem fill_ge {s : Int} (h : 2 ≤ s) (a : Int) : a ≤ fillN s a ∧ fillN s a < a + s := by
  have h1 := Int.emod_def (a + s - 1) s
  have h2 := Int.emod_nonneg (a + s - 1) (by omega : s ≠ 0)
  have h3 := Int.emod_lt_of_pos (a + s - 1) (by omega : 0 < s)
  unfold fillN
  rw [Int.mul_comm]
  omega
theorem pass_at {n s : Int} {ws l : List Int} (ok : GOk n s ws) (hl : (l.length : Int) = n) {x : Int} (h0 : 0 ≤ x) (h1 : x < n) : vl (passL n s ws l) x = (s - (ws.length : Int)) * un s l x + (ws.map fun w => un s l ((x - w) % n)).sum := by
  have h2 := ok.n2
  have hn : ((n.toNat : Nat) : Int) = n := by omega
  have key : ∀ y : Int, 0 ≤ y → y < n → (unitL s l).getD y.toNat 0 = un s l y := fun y hy0 hy1 => by
    unfold unitL un vl
    rw [List.getD_eq_getElem?_getD, List.getElem?_map, List.getElem?_eq_getElem (by omega), List.getD_eq_getElem?_getD, List.getElem?_eq_getElem (by omega)]
    rfl
  unfold vl
  rw [← gAt_pass ok hl, List.getD_eq_getElem?_getD, tab_get _ (by omega), Option.getD_some]
  show gAt _ _ _ _ _ _ = _
  unfold gAt
  rw [if_pos (by omega)]
  dsimp only
  rw [key x h0 h1, Int.mul_comm]
  congr 2
  refine List.map_congr_left fun w hw => ?_
  rw [hn, if_pos (Int.emod_lt_of_pos _ (by omega)), Int.toNat_of_nonneg h0, key _ (Int.emod_nonneg _ (by omega)) (Int.emod_lt_of_pos _ (by omega))]
theorem vl_ext {a b : List Int} (h : a.length = b.length) (k : ∀ x : Int, 0 ≤ x → x < (a.length : Int) → vl a x = vl b x) : a = b := by
  refine List.ext_getElem? fun i => ?_
  by_cases hi : i < a.length
  · have := k (i : Int) (by omega) (by omega)
    unfold vl at this
    rw [Int.toNat_natCast, List.getD_eq_getElem?_getD, List.getD_eq_getElem?_getD, List.getElem?_eq_getElem hi, List.getElem?_eq_getElem (by omega)] at this
    rw [List.getElem?_eq_getElem hi, List.getElem?_eq_getElem (by omega)]
    exact congrArg some this
  · rw [List.getElem?_eq_none (by omega), List.getElem?_eq_none (by omega)]
theorem sum_ge {f : Int → Int} {c : Int} : ∀ {ws : List Int}, (∀ w ∈ ws, c ≤ f w) → (ws.length : Int) * c ≤ (ws.map f).sum
  | [], _ => by simp
  | w :: ws, h => by
    have h1 := h w List.mem_cons_self
    have h2 := sum_ge (c := c) (ws := ws) fun v hv => h v (List.mem_cons_of_mem _ hv)
    rw [List.map_cons, List.sum_cons, List.length_cons, Int.natCast_add, Int.add_mul]
    simp
    omega
theorem sum_tight {f : Int → Int} {c : Int} : ∀ {ws : List Int}, (∀ w ∈ ws, c ≤ f w) → (ws.map f).sum ≤ (ws.length : Int) * c → ∀ w ∈ ws, f w = c
  | [], _, _ => fun w h => by cases h
  | w :: ws, h, hs => by
    have h1 := h w List.mem_cons_self
    have hr : ∀ v ∈ ws, c ≤ f v := fun v hv => h v (List.mem_cons_of_mem _ hv)
    have h2 := sum_ge (c := c) hr
    rw [List.map_cons, List.sum_cons, List.length_cons, Int.natCast_add, Int.add_mul] at hs
    simp at hs
    intro v hv
    rcases List.mem_cons.mp hv with rfl | hv
    · omega
    · exact sum_tight hr (by omega) v hv
theorem sum_const {f : Int → Int} {c : Int} {ws : List Int} (h : ∀ w ∈ ws, f w = c) : (ws.map f).sum = (ws.length : Int) * c := by
  have : ws.map f = ws.map fun _ => c := List.map_congr_left h
  rw [this, List.map_const', sum_rep]
/-- a set closed under taking a step back holds with a place all that are alike to it -/
theorem back_all {n s : Int} {ws : List Int} (ok : GOk n s ws) {S : Int → Prop} (rg : ∀ x, S x → 0 ≤ x ∧ x < n) (cl : ∀ x, S x → ∀ w ∈ ws, S ((x - w) % n)) {x y : Int} (hx : S x) (h0 : 0 ≤ y) (h1 : y < n) (h : y % ((gW n ws : Nat) : Int) = x % ((gW n ws : Nat) : Int)) : S y := by
  have hn : 0 < n := by have := ok.n2; omega
  have c0 : Cl n [] S := ⟨rg, fun x _ w hw => by cases hw⟩
  have sb := c0.sub hn
  refine Cl.all ok (S := S) ⟨rg, fun x hx w hw => ?_⟩ hx h0 h1 h
  have := sb.neg (-w) (fun x hx => by have := cl x hx w hw; rwa [Int.sub_eq_add_neg] at this) x hx
  rwa [Int.neg_neg] at this
theorem ring_back {n s : Int} {ws : List Int} (ok : GOk n s ws) {x w : Int} (hw : w ∈ ws) : ((x - w) % n) % ((gW n ws : Nat) : Int) = x % ((gW n ws : Nat) : Int) := by
  obtain ⟨g1, g2, g3, g4⟩ := gW_dvd ok
  rw [Int.emod_emod_of_dvd _ g1, Int.sub_emod, Int.emod_eq_zero_of_dvd (g2 w hw), Int.sub_zero, Int.emod_emod_of_dvd _ (Int.dvd_refl _)]
/-- in each ring there is a least place -/
theorem ring_min {n : Int} {g : Int} (u : Int → Int) {x : Int} (h0 : 0 ≤ x) (h1 : x < n) : ∃ y, 0 ≤ y ∧ y < n ∧ y % g = x % g ∧ ∀ z, 0 ≤ z → z < n → z % g = x % g → u y ≤ u z := by
  have hr : ∀ m : Int, m ∈ rngL 0 n.toNat ↔ 0 ≤ m ∧ m < n := fun m => by
    unfold rngL
    rw [List.mem_map]
    constructor
    · rintro ⟨i, hi, rfl⟩
      have := List.mem_range.mp hi
      omega
    · rintro ⟨h0, h1⟩
      exact ⟨m.toNat, List.mem_range.mpr (by omega), by omega⟩
  have hmem : ∀ z : Int, z ∈ (rngL 0 n.toNat).filter (fun z => decide (z % g = x % g)) ↔ 0 ≤ z ∧ z < n ∧ z % g = x % g := fun z => by
    rw [List.mem_filter, hr, decide_eq_true_eq, and_assoc]
  have hne : ((rngL 0 n.toNat).filter fun z => decide (z % g = x % g)).map u ≠ [] := by
    intro e
    have := (hmem x).mpr ⟨h0, h1, rfl⟩
    rw [List.map_eq_nil_iff] at e
    rw [e] at this
    cases this
  obtain ⟨y, hy, ey⟩ := List.mem_map.mp (lmin_mem hne)
  have hy2 := (hmem y).mp hy
  refine ⟨y, hy2.1, hy2.2.1, hy2.2.2, fun z z0 z1 z2 => ?_⟩
  rw [ey]
  exact lmin_le (List.mem_map.mpr ⟨z, (hmem z).mpr ⟨z0, z1, z2⟩, rfl⟩)
/-- units that nowhere rise on the average are alike in each ring -/
theorem super_const {n s : Int} {ws : List Int} (ok : GOk n s ws) (u : Int → Int) (h : ∀ x, 0 ≤ x → x < n → (ws.map fun w => u ((x - w) % n)).sum ≤ (ws.length : Int) * u x) {x y : Int} (hx0 : 0 ≤ x) (hx1 : x < n) (hy0 : 0 ≤ y) (hy1 : y < n) (e : x % ((gW n ws : Nat) : Int) = y % ((gW n ws : Nat) : Int)) : u x = u y := by
  have hn2 := ok.n2
  obtain ⟨m, m0, m1, m2, m3⟩ := ring_min (g := ((gW n ws : Nat) : Int)) u hx0 hx1
  have all : ∀ z, 0 ≤ z → z < n → z % ((gW n ws : Nat) : Int) = x % ((gW n ws : Nat) : Int) → u z = u m := fun z z0 z1 z2 => by
    refine (back_all ok (S := fun z => 0 ≤ z ∧ z < n ∧ z % ((gW n ws : Nat) : Int) = x % ((gW n ws : Nat) : Int) ∧ u z = u m) (fun z hz => ⟨hz.1, hz.2.1⟩) ?_ ⟨m0, m1, m2, rfl⟩ z0 z1 (z2.trans m2.symm)).2.2.2
    rintro v ⟨v0, v1, v2, v3⟩ w hw
    have hb := ring_back ok (x := v) hw
    have b0 := Int.emod_nonneg (v - w) (by omega : n ≠ 0)
    have b1 := Int.emod_lt_of_pos (v - w) (by omega : 0 < n)
    refine ⟨b0, b1, hb.trans v2, ?_⟩
    have h1 := h v v0 v1
    rw [v3] at h1
    exact sum_tight (f := fun w => u ((v - w) % n)) (c := u m) (fun w' hw' => m3 _ (Int.emod_nonneg _ (by omega)) (Int.emod_lt_of_pos _ (by omega)) ((ring_back ok hw').trans v2)) h1 w hw
  rw [all x hx0 hx1 rfl, all y hy0 hy1 e.symm]
/-- when a row stands still -/
theorem still_iff {n s : Int} {ws l : List Int} (ok : GOk n s ws) (hl : (l.length : Int) = n) : passL n s ws l = l ↔
    (∀ x y, 0 ≤ x → x < n → 0 ≤ y → y < n → x % ((gW n ws : Nat) : Int) = y % ((gW n ws : Nat) : Int) → vl l x = vl l y) ∧ ∀ x, 0 ≤ x → x < n → vl l x % s = 0 := by
  have hn2 := ok.n2
  have hs2 := ok.s2
  have hls := ok.ls
  constructor
  · intro h
    have hx : ∀ x, 0 ≤ x → x < n → vl l x = (s - (ws.length : Int)) * un s l x + (ws.map fun w => un s l ((x - w) % n)).sum := fun x h0 h1 => by
      have := pass_at ok hl h0 h1
      rwa [h] at this
    have sup : ∀ x, 0 ≤ x → x < n → (ws.map fun w => un s l ((x - w) % n)).sum ≤ (ws.length : Int) * un s l x := fun x h0 h1 => by
      have e1 := hx x h0 h1
      have e2 := un_eq hs2 l x
      have e3 := fill_ge hs2 (vl l x)
      rw [Int.sub_mul] at e1
      rw [Int.mul_comm] at e2
      omega
    have cst : ∀ x y, 0 ≤ x → x < n → 0 ≤ y → y < n → x % ((gW n ws : Nat) : Int) = y % ((gW n ws : Nat) : Int) → un s l x = un s l y := fun x y a b c d e => super_const ok (un s l) sup a b c d e
    have val : ∀ x, 0 ≤ x → x < n → vl l x = s * un s l x := fun x h0 h1 => by
      rw [hx x h0 h1, sum_const (c := un s l x) fun w hw => cst _ _ (Int.emod_nonneg _ (by omega)) (Int.emod_lt_of_pos _ (by omega)) h0 h1 (ring_back ok hw), Int.sub_mul]
      omega
    refine ⟨fun x y a b c d e => ?_, fun x a b => ?_⟩
    · rw [val x a b, val y c d, cst x y a b c d e]
    · rw [val x a b]; exact Int.mul_emod_right ..
  · rintro ⟨h1, h2⟩
    refine vl_ext (by rw [passL_len]; omega) fun x h0 hx => ?_
    rw [passL_len] at hx
    have hxn : x < n := by omega
    rw [pass_at ok hl h0 hxn]
    have hu : ∀ y, 0 ≤ y → y < n → un s l y * s = vl l y := fun y y0 y1 => by
      rw [un_eq hs2]
      have e := h2 y y0 y1
      have := Int.emod_def (vl l y) s
      rw [e] at this
      have e4 : vl l y = vl l y / s * s := by rw [Int.mul_comm]; omega
      unfold fillN
      rw [e4, show vl l y / s * s + s - 1 = (s - 1) + vl l y / s * s by omega, Int.add_mul_ediv_right _ _ (by omega), Int.ediv_eq_zero_of_lt (by omega) (by omega), Int.zero_add]
    have hc : ∀ w ∈ ws, un s l ((x - w) % n) = un s l x := fun w hw => by
      have b0 := Int.emod_nonneg (x - w) (by omega : n ≠ 0)
      have b1 := Int.emod_lt_of_pos (x - w) (by omega : 0 < n)
      have e := h1 _ x b0 b1 h0 hxn (ring_back ok hw)
      unfold un
      rw [e]
    rw [sum_const hc, ← Int.add_mul, show s - (ws.length : Int) + (ws.length : Int) = s by omega, Int.mul_comm]
    exact hu x h0 hxn
theorem ringL_head {n s : Int} {ws : List Int} (ok : GOk n s ws) {f : Nat} (hf : f < gW n ws) : ∃ r, ringL n (gW n ws) f = (f : Int) :: r := by
  obtain ⟨g1, g2, g3, g4⟩ := gW_dvd ok
  unfold ringL rngC
  have h : 1 ≤ (n - f + ((gW n ws : Nat) : Int) - 1) / ((gW n ws : Nat) : Int) := by
    rw [Int.le_ediv_iff_mul_le (by omega)]; omega
  obtain ⟨m, hm⟩ : ∃ m, ((n - f + ((gW n ws : Nat) : Int) - 1) / ((gW n ws : Nat) : Int)).toNat = m + 1 := ⟨((n - f + ((gW n ws : Nat) : Int) - 1) / ((gW n ws : Nat) : Int)).toNat - 1, by omega⟩
  rw [hm, List.range_succ_eq_map, List.map_cons]
  exact ⟨_, by rw [Int.natCast_zero, Int.zero_mul, Int.add_zero]⟩
theorem ringsD_get {n : Int} {g i : Nat} {y : D} (h : (ringsD n g)[i]? = some y) : i < g ∧ y = .tup (iL (ringL n g i)) := by
  unfold ringsD at h
  rw [List.getElem?_map] at h
  cases e : (List.range g)[i]? with
  | none => rw [e] at h; cases h
  | some j =>
    rw [e] at h
    have hi := (List.getElem?_eq_some_iff.mp e).1
    rw [List.length_range] at hi
    rw [List.getElem?_range hi] at e
    cases e
    exact ⟨hi, by simpa using h.symm⟩
theorem ringsD_len (n : Int) (g : Nat) : (ringsD n g).length = g := by unfold ringsD; rw [List.length_map, List.length_range]
theorem ixN_of {l : List Int} {x : Int} (h0 : 0 ≤ x) (h1 : x < (l.length : Int)) : ixN (iL l).length x = some x.toNat := by
  rw [iL_len]; unfold ixN; rw [if_pos h0, if_pos h1]
theorem atD_vl {l : List Int} {x : Int} (h0 : 0 ≤ x) (h1 : x < (l.length : Int)) : atD (iL l) x = some (.int (vl l x)) := by
  rw [atD_in h0, iL_get, List.getElem?_eq_getElem (by omega)]
  unfold vl
  rw [List.getD_eq_getElem?_getD, List.getElem?_eq_getElem (by omega)]
  rfl
end Sw

namespace Sw
open PySem PySem.Spec PyProof.Rows L2 PD
local macro_rules | `(tactic| walk_at "ev") => `(tactic| simp only [sSeq, sAsg, sRet, sRetN, sIf, sDrop, sNx, sPar, sPar3, gN, gT, gsCons, gsNil, dV, dC, dI, dOp, dUn, dCh, dB, dAnd, dOr, dNot, dAndV, dOrV, dNotV, dIf, dNil, dCons, dTup, dLst, dCB, dCall, dSetLen, sTry, hdlD, dkRun, dkCls, dI0, dI2, rdLen, rdIsi, rdIsiT, rdIx, dGet_eq, rdGet_size, rdGet_share, rdGet_ways,
  sFor_eq, dLc_eq, iTp, iLs, iSc, iR1, iR2, iEnT, iEnL, iEnS, wipeD_nil, wipeD_cons, sOpen, dShut, sBrk, sCnt, sNever, dNeg, dPart, dNoPart, dSl, sAug, sSetL, dApp, dPopAt, dNewL, dNewCat, dToRng, sPut, dMake, finG, sRaise0, sRaise1, sFrz, dNewRep, dNewList, dPop, dStar, dUn,
  rdEq_i, rdNe_i, sI_2, ixN_0, ixN_1, Cell.lst.injEq, rdInt_i, rdInt_b, rdAbs_i, rdMax2_i, eqD_int, eqOk_int, cellD_int, eqD_bl, eqOk_bl, cellD_bl, eqOk_non, seqOf_lst, seqOf_tup, lstOf_lst, atD_0, atD_1, atD_2, List.set_set, cellD_lst, cellD_tup, iL_cons, iL_nil, iL_len,
  startD, bodyN, List.map_cons, List.map_nil, List.length_cons, List.length_nil, List.replicate_succ, List.replicate_zero, List.cons_append, List.nil_append, List.append_nil, List.getElem?_cons_zero, List.getElem?_cons_succ, List.set_cons_zero, List.set_cons_succ, Nat.reduceSub, Nat.reduceAdd, Nat.zero_add,
  Option.some.injEq, exists_eq_left', exists_eq_left, D.int.injEq, D.bl.injEq, D.lst.injEq, D.tup.injEq, D.str.injEq, D.ptr.injEq, D.scr.injEq, D.gm.injEq, List.cons.injEq, and_true, true_and, exists_and_left, exists_and_right, D.ty.injEq, and_assoc, ↓reduceIte, eq_self, Bool.not_true, Bool.not_false, Bool.false_eq_true, decide_true, decide_false])
/-! SwT: the rounds come to an end. -/
theorem filter_lt {p q : Int → Bool} : ∀ {l : List Int}, (∀ x ∈ l, q x = true → p x = true) → (∃ x ∈ l, p x = true ∧ q x = false) → (l.filter q).length < (l.filter p).length
  | [], _, h => by obtain ⟨x, hx, _⟩ := h; cases hx
  | y :: l, hs, h => by
    have hr : ∀ x ∈ l, q x = true → p x = true := fun x hx => hs x (List.mem_cons_of_mem _ hx)
    have hle : (l.filter q).length ≤ (l.filter p).length := by
      clear h hs
      induction l with
      | nil => simp
      | cons z l ih =>
        have ih := ih fun x hx => hr x (List.mem_cons_of_mem _ hx)
        have hz := hr z List.mem_cons_self
        rw [List.filter_cons, List.filter_cons]
        cases hq : q z with
        | true => rw [hz hq]; simp; omega
        | false => cases p z <;> simp <;> omega
    rw [List.filter_cons, List.filter_cons]
    obtain ⟨x, hx, hp, hq⟩ := h
    rcases List.mem_cons.mp hx with e | hx
    · subst e
      rw [hp, hq]; simp; omega
    · have ih := filter_lt hr ⟨x, hx, hp, hq⟩
      have hy := hs y List.mem_cons_self
      cases hqy : q y with
      | true => rw [hy hqy]; simp; omega
      | false => cases p y <;> simp <;> omega
theorem sum_le {f : Int → Int} {c : Int} : ∀ {ws : List Int}, (∀ w ∈ ws, f w ≤ c) → (ws.map f).sum ≤ (ws.length : Int) * c
  | [], _ => by simp
  | w :: ws, h => by
    have h1 := h w List.mem_cons_self
    have h2 := sum_le (c := c) (ws := ws) fun v hv => h v (List.mem_cons_of_mem _ hv)
    rw [List.map_cons, List.sum_cons, List.length_cons, Int.natCast_add, Int.add_mul]
    simp
    omega
section
variable {n s : Int} {ws l : List Int}
/-- the next round's parts, between the least and the greatest around -/
theorem un_next (ok : GOk n s ws) (hl : (l.length : Int) = n) {x : Int} (h0 : 0 ≤ x) (h1 : x < n) : s * (un s (passL n s ws l) x - 1) < (s - (ws.length : Int)) * un s l x + (ws.map fun w => un s l ((x - w) % n)).sum ∧ (s - (ws.length : Int)) * un s l x + (ws.map fun w => un s l ((x - w) % n)).sum ≤ s * un s (passL n s ws l) x := by
  have hs2 := ok.s2
  have e := pass_at ok hl h0 h1
  have e2 := un_eq hs2 (passL n s ws l) x
  have e3 := fill_ge hs2 (vl (passL n s ws l) x)
  rw [Int.mul_comm] at e2
  rw [Int.mul_sub]
  omega
theorem un_le (ok : GOk n s ws) (hl : (l.length : Int) = n) {x M : Int} (h0 : 0 ≤ x) (h1 : x < n) (hx : un s l x ≤ M) (hw : ∀ w ∈ ws, un s l ((x - w) % n) ≤ M) : un s (passL n s ws l) x ≤ M := by
  have hs2 := ok.s2
  have hls := ok.ls
  have h := (un_next ok hl h0 h1).1
  have h2 := sum_le (f := fun w => un s l ((x - w) % n)) hw
  have h3 : (s - (ws.length : Int)) * un s l x ≤ (s - (ws.length : Int)) * M := Int.mul_le_mul_of_nonneg_left hx (by omega)
  rw [Int.sub_mul (s) (ws.length : Int) M] at h3
  refine Classical.byContradiction fun hc => ?_
  have h4 : s * M ≤ s * (un s (passL n s ws l) x - 1) := Int.mul_le_mul_of_nonneg_left (by omega) (by omega)
  omega
theorem un_ge (ok : GOk n s ws) (hl : (l.length : Int) = n) {x m : Int} (h0 : 0 ≤ x) (h1 : x < n) (hx : m ≤ un s l x) (hw : ∀ w ∈ ws, m ≤ un s l ((x - w) % n)) : m ≤ un s (passL n s ws l) x := by
  have hs2 := ok.s2
  have hls := ok.ls
  have h := (un_next ok hl h0 h1).2
  have h2 := sum_ge (f := fun w => un s l ((x - w) % n)) hw
  have h3 : (s - (ws.length : Int)) * m ≤ (s - (ws.length : Int)) * un s l x := Int.mul_le_mul_of_nonneg_left hx (by omega)
  rw [Int.sub_mul (s) (ws.length : Int) m] at h3
  refine Classical.byContradiction fun hc => ?_
  have h4 : s * (un s (passL n s ws l) x + 1) ≤ s * m := Int.mul_le_mul_of_nonneg_left (by omega) (by omega)
  rw [Int.mul_add] at h4
  omega
theorem un_tight (ok : GOk n s ws) (hl : (l.length : Int) = n) {x m : Int} (h0 : 0 ≤ x) (h1 : x < n) (hx : m ≤ un s l x) (hw : ∀ w ∈ ws, m ≤ un s l ((x - w) % n)) (he : un s (passL n s ws l) x = m) : un s l x = m ∧ ∀ w ∈ ws, un s l ((x - w) % n) = m := by
  have hs2 := ok.s2
  have hls := ok.ls
  have h := (un_next ok hl h0 h1).2
  rw [he] at h
  have h2 := sum_ge (f := fun w => un s l ((x - w) % n)) hw
  have h3 : un s l x = m := by
    refine Classical.byContradiction fun hc => ?_
    have h4 : (s - (ws.length : Int)) * (m + 1) ≤ (s - (ws.length : Int)) * un s l x := Int.mul_le_mul_of_nonneg_left (by omega) (by omega)
    rw [Int.mul_add, Int.sub_mul] at h4
    omega
  refine ⟨h3, sum_tight hw ?_⟩
  rw [h3, Int.sub_mul] at h
  omega
/-- the places of a ring -/
def rgs (n : Int) (ws : List Int) (f : Nat) : List Int := (rngL 0 n.toNat).filter fun z => decide (z % ((gW n ws : Nat) : Int) = (f : Int))
theorem mem_rgs {f : Nat} {z : Int} : z ∈ rgs n ws f ↔ 0 ≤ z ∧ z < n ∧ z % ((gW n ws : Nat) : Int) = (f : Int) := by
  unfold rgs
  rw [List.mem_filter, decide_eq_true_eq]
  have hr : z ∈ rngL 0 n.toNat ↔ 0 ≤ z ∧ z < n := by
    unfold rngL
    rw [List.mem_map]
    constructor
    · rintro ⟨i, hi, rfl⟩
      have := List.mem_range.mp hi
      omega
    · rintro ⟨h0, h1⟩
      exact ⟨z.toNat, List.mem_range.mpr (by omega), by omega⟩
  rw [hr, and_assoc]
theorem rgs_len {f : Nat} : (rgs n ws f).length ≤ n.toNat := by
  unfold rgs
  refine Nat.le_trans (List.length_filter_le _ _) ?_
  unfold rngL
  rw [List.length_map, List.length_range]
  exact Nat.le_refl _
/-- all alike in the ring -/
def Cst (n s : Int) (ws l : List Int) (f : Nat) : Prop := ∀ x y, x ∈ rgs n ws f → y ∈ rgs n ws f → un s l x = un s l y
theorem rgs_back (ok : GOk n s ws) {f : Nat} {x w : Int} (hx : x ∈ rgs n ws f) (hw : w ∈ ws) : (x - w) % n ∈ rgs n ws f := by
  have hn := ok.n2
  rw [mem_rgs] at hx ⊢
  exact ⟨Int.emod_nonneg _ (by omega), Int.emod_lt_of_pos _ (by omega), (ring_back ok hw).trans hx.2.2⟩
theorem cst_next (ok : GOk n s ws) (hl : (l.length : Int) = n) {f : Nat} (h : Cst n s ws l f) {x : Int} (hx : x ∈ rgs n ws f) : un s (passL n s ws l) x = un s l x := by
  have hx2 := mem_rgs.mp hx
  have e : ∀ w ∈ ws, un s l ((x - w) % n) = un s l x := fun w hw => h _ _ (rgs_back ok hx hw) hx
  have h1 := un_le ok hl hx2.1 hx2.2.1 (Int.le_refl _) (fun w hw => Int.le_of_eq (e w hw))
  have h2 := un_ge ok hl hx2.1 hx2.2.1 (Int.le_refl _) (fun w hw => Int.le_of_eq (e w hw).symm)
  omega
/-- how far a ring is from being alike -/
def mu (n s : Int) (ws l : List Int) (f : Nat) : Nat :=
  (lmax ((rgs n ws f).map (un s l)) - lmin ((rgs n ws f).map (un s l))).toNat * (n.toNat + 1) + ((rgs n ws f).filter fun x => decide (un s l x = lmin ((rgs n ws f).map (un s l)))).length
theorem mu_lt (ok : GOk n s ws) (hl : (l.length : Int) = n) {f : Nat} (hne : rgs n ws f ≠ []) (h : ¬ Cst n s ws l f) : mu n s ws (passL n s ws l) f < mu n s ws l f := by
  have hl' : ((passL n s ws l).length : Int) = n := by rw [passL_len]; have := ok.n2; omega
  have hn2 := ok.n2
  have ne1 : (rgs n ws f).map (un s l) ≠ [] := fun e => hne (List.map_eq_nil_iff.mp e)
  have ne2 : (rgs n ws f).map (un s (passL n s ws l)) ≠ [] := fun e => hne (List.map_eq_nil_iff.mp e)
  generalize hM : lmax ((rgs n ws f).map (un s l)) = M
  generalize hm : lmin ((rgs n ws f).map (un s l)) = m
  have leM : ∀ x ∈ rgs n ws f, un s l x ≤ M := fun x hx => hM ▸ le_lmax (List.mem_map.mpr ⟨x, hx, rfl⟩)
  have gem : ∀ x ∈ rgs n ws f, m ≤ un s l x := fun x hx => hm ▸ lmin_le (List.mem_map.mpr ⟨x, hx, rfl⟩)
  have leM2 : ∀ x ∈ rgs n ws f, un s (passL n s ws l) x ≤ M := fun x hx => un_le ok hl (mem_rgs.mp hx).1 (mem_rgs.mp hx).2.1 (leM x hx) fun w hw => leM _ (rgs_back ok hx hw)
  have gem2 : ∀ x ∈ rgs n ws f, m ≤ un s (passL n s ws l) x := fun x hx => un_ge ok hl (mem_rgs.mp hx).1 (mem_rgs.mp hx).2.1 (gem x hx) fun w hw => gem _ (rgs_back ok hx hw)
  obtain ⟨xM, hxM, exM⟩ := List.mem_map.mp (lmax_mem ne2)
  obtain ⟨xm, hxm, exm⟩ := List.mem_map.mp (lmin_mem ne2)
  obtain ⟨x0, hx0, ex0⟩ := List.mem_map.mp (lmin_mem ne1)
  have hM2 : lmax ((rgs n ws f).map (un s (passL n s ws l))) ≤ M := exM ▸ leM2 xM hxM
  have hm2 : m ≤ lmin ((rgs n ws f).map (un s (passL n s ws l))) := exm ▸ gem2 xm hxm
  have hmM : lmin ((rgs n ws f).map (un s (passL n s ws l))) ≤ lmax ((rgs n ws f).map (un s (passL n s ws l))) := by
    rw [← exm]; exact le_lmax (List.mem_map.mpr ⟨xm, hxm, rfl⟩)
  have cl1 := rgs_len (n := n) (ws := ws) (f := f)
  unfold mu
  rw [hM, hm]
  by_cases hup : m < lmin ((rgs n ws f).map (un s (passL n s ws l)))
  · have c1 : ((rgs n ws f).filter fun x => decide (un s (passL n s ws l) x = lmin ((rgs n ws f).map (un s (passL n s ws l))))).length ≤ n.toNat := Nat.le_trans (List.length_filter_le _ _) cl1
    have c2 : 0 < ((rgs n ws f).filter fun x => decide (un s l x = m)).length := List.length_pos_of_mem (a := x0) (List.mem_filter.mpr ⟨hx0, decide_eq_true (ex0.trans hm)⟩)
    have d1 : (lmax ((rgs n ws f).map (un s (passL n s ws l))) - lmin ((rgs n ws f).map (un s (passL n s ws l)))).toNat + 1 ≤ (M - m).toNat := by omega
    have d2 := Nat.mul_le_mul_right (n.toNat + 1) d1
    rw [Nat.add_mul, Nat.one_mul] at d2
    omega
  · have em : lmin ((rgs n ws f).map (un s (passL n s ws l))) = m := by omega
    rw [em]
    have d1 : (lmax ((rgs n ws f).map (un s (passL n s ws l))) - m).toNat ≤ (M - m).toNat := by omega
    have d2 := Nat.mul_le_mul_right (n.toNat + 1) d1
    have c : ((rgs n ws f).filter fun x => decide (un s (passL n s ws l) x = m)).length < ((rgs n ws f).filter fun x => decide (un s l x = m)).length := by
      refine filter_lt (fun x hx hq => ?_) ?_
      · exact decide_eq_true (un_tight ok hl (mem_rgs.mp hx).1 (mem_rgs.mp hx).2.1 (gem x hx) (fun w hw => gem _ (rgs_back ok hx hw)) (of_decide_eq_true hq)).1
      · refine Classical.byContradiction fun hc => h ?_
        have all : ∀ x ∈ rgs n ws f, un s l x = m → un s (passL n s ws l) x = m := fun x hx e => by
          refine Classical.byContradiction fun e2 => hc ⟨x, hx, decide_eq_true e, decide_eq_false e2⟩
        have hx02 := mem_rgs.mp hx0
        have key : ∀ x ∈ rgs n ws f, un s l x = m := fun x hx => by
          have hx2 := mem_rgs.mp hx
          refine (back_all ok (S := fun z => z ∈ rgs n ws f ∧ un s l z = m) (fun z hz => ⟨(mem_rgs.mp hz.1).1, (mem_rgs.mp hz.1).2.1⟩) ?_ (x := x0) (y := x) ⟨hx0, ex0.trans hm⟩ hx2.1 hx2.2.1 (hx2.2.2.trans hx02.2.2.symm)).2
          rintro z ⟨hz, ez⟩ w hw
          have hz2 := mem_rgs.mp hz
          exact ⟨rgs_back ok hz hw, (un_tight ok hl hz2.1 hz2.2.1 (gem z hz) (fun w' hw' => gem _ (rgs_back ok hz hw')) (all z hz ez)).2 w hw⟩
        exact fun x y hx hy => (key x hx).trans (key y hy).symm
    omega
theorem cst_keep (ok : GOk n s ws) (hl : (l.length : Int) = n) {f : Nat} (h : Cst n s ws l f) : Cst n s ws (passL n s ws l) f := fun x y hx hy => by
  rw [cst_next ok hl h hx, cst_next ok hl h hy]; exact h x y hx hy
theorem cst_keeps (ok : GOk n s ws) (hl : (l.length : Int) = n) {f t : Nat} (h : Cst n s ws (itP n s ws l t) f) : ∀ j, Cst n s ws (itP n s ws l (t + j)) f
  | 0 => h
  | j + 1 => cst_keep ok (itP_len hl (t + j)) (cst_keeps ok hl h j)
theorem ring_ends (ok : GOk n s ws) (hl : (l.length : Int) = n) {f : Nat} (hf : f < gW n ws) : ∀ (k t : Nat), mu n s ws (itP n s ws l t) f ≤ k → ∃ T, t ≤ T ∧ T ≤ t + k ∧ Cst n s ws (itP n s ws l T) f := by
  obtain ⟨g1, g2, g3, g4⟩ := gW_dvd ok
  have hne : rgs n ws f ≠ [] := List.ne_nil_of_mem (a := (f : Int)) (mem_rgs.mpr ⟨by omega, by omega, Int.emod_eq_of_lt (by omega) (by omega)⟩)
  intro k
  induction k with
  | zero =>
    intro t h
    refine ⟨t, Nat.le_refl _, Nat.le_refl _, Classical.byContradiction fun hc => ?_⟩
    have := mu_lt ok (itP_len hl t) hne hc
    omega
  | succ k ih =>
    intro t h
    by_cases hc : Cst n s ws (itP n s ws l t) f
    · exact ⟨t, Nat.le_refl _, by omega, hc⟩
    · have h1 := mu_lt ok (itP_len hl t) hne hc
      obtain ⟨T, h2, h3, h4⟩ := ih (t + 1) (by show mu n s ws (passL n s ws (itP n s ws l t)) f ≤ k; omega)
      exact ⟨T, by omega, by omega, h4⟩
theorem rings_end (ok : GOk n s ws) (hl : (l.length : Int) = n) : ∀ g, g ≤ gW n ws → ∃ T, ∀ f, f < g → Cst n s ws (itP n s ws l T) f
  | 0, _ => ⟨0, fun f hf => by omega⟩
  | g + 1, hg => by
    obtain ⟨T1, h1⟩ := rings_end ok hl g (by omega)
    obtain ⟨T2, h2, _, h3⟩ := ring_ends ok hl (f := g) (by omega) _ T1 (Nat.le_refl _)
    refine ⟨T2, fun f hf => ?_⟩
    by_cases e : f = g
    · subst e; exact h3
    · have := cst_keeps ok hl (h1 f (by omega)) (T2 - T1)
      rwa [show T1 + (T2 - T1) = T2 by omega] at this
/-- where each ring is alike the next row stands still -/
theorem cst_still (ok : GOk n s ws) (hl : (l.length : Int) = n) (h : ∀ f, f < gW n ws → Cst n s ws l f) : passL n s ws (passL n s ws l) = passL n s ws l := by
  have hn2 := ok.n2
  have hls := ok.ls
  obtain ⟨g1, g2, g3, g4⟩ := gW_dvd ok
  have hl' : ((passL n s ws l).length : Int) = n := by rw [passL_len]; omega
  have at_ : ∀ x, 0 ≤ x → x < n → ∃ f, f < gW n ws ∧ x ∈ rgs n ws f := fun x h0 h1 => by
    have a := Int.emod_nonneg x (by omega : ((gW n ws : Nat) : Int) ≠ 0)
    have b := Int.emod_lt_of_pos x (by omega : 0 < ((gW n ws : Nat) : Int))
    exact ⟨(x % ((gW n ws : Nat) : Int)).toNat, by omega, mem_rgs.mpr ⟨h0, h1, by omega⟩⟩
  have val : ∀ x, 0 ≤ x → x < n → vl (passL n s ws l) x = s * un s l x := fun x h0 h1 => by
    obtain ⟨f, hf, hx⟩ := at_ x h0 h1
    rw [pass_at ok hl h0 h1, sum_const (c := un s l x) fun w hw => h f hf _ _ (rgs_back ok hx hw) hx, Int.sub_mul]
    omega
  refine (still_iff ok hl').mpr ⟨fun x y x0 x1 y0 y1 e => ?_, fun x x0 x1 => ?_⟩
  · rw [val x x0 x1, val y y0 y1]
    obtain ⟨f, hf, hx⟩ := at_ x x0 x1
    have hy : y ∈ rgs n ws f := mem_rgs.mpr ⟨y0, y1, e.symm.trans (mem_rgs.mp hx).2.2⟩
    rw [h f hf x y hx hy]
  · rw [val x x0 x1]; exact Int.mul_emod_right ..
theorem it_ends (ok : GOk n s ws) (hl : (l.length : Int) = n) : ∃ N, itP n s ws l (N + 1) = itP n s ws l N := by
  obtain ⟨T, h⟩ := rings_end ok hl (gW n ws) (Nat.le_refl _)
  exact ⟨T + 1, cst_still ok (itP_len hl T) h⟩
end
def rot (a : Nat) (l : List Int) : List Int := l.drop a ++ l.take a
theorem rot_len {a : Nat} {l : List Int} (h : a ≤ l.length) : (rot a l).length = l.length := by unfold rot; rw [List.length_append, List.length_drop, List.length_take]; omega
theorem rot_sum (a : Nat) (l : List Int) : (rot a l).sum = l.sum := by
  have h := congrArg List.sum (List.take_append_drop a l)
  rw [List.sum_append] at h
  unfold rot
  rw [List.sum_append]
  omega
theorem rot_mem {a : Nat} {l : List Int} {x : Int} (h : x ∈ rot a l) : x ∈ l := by
  rcases List.mem_append.mp h with q | q
  · exact List.mem_of_mem_drop q
  · exact List.mem_of_mem_take q
theorem rot_inj {a : Nat} {l m : List Int} (hl : l.length = m.length) (h : rot a l = rot a m) : l = m := by
  unfold rot at h
  obtain ⟨h1, h2⟩ := List.append_inj h (by rw [List.length_drop, List.length_drop, hl])
  rw [← List.take_append_drop a l, ← List.take_append_drop a m, h1, h2]
theorem vl_rot {a : Nat} {l : List Int} {n x : Int} (hl : (l.length : Int) = n) (ha : (a : Int) < n) (h0 : 0 ≤ x) (h1 : x < n) : vl (rot a l) x = vl l ((x + a) % n) := by
  unfold vl rot
  by_cases h : x + a < n
  · rw [Int.emod_eq_of_lt (by omega) h, List.getD_eq_getElem?_getD, List.getElem?_append_left (by rw [List.length_drop]; omega), List.getElem?_drop, List.getD_eq_getElem?_getD]
    congr 2
    omega
  · have e : (x + a) % n = x + a - n := by
      rw [← Int.sub_emod_right, Int.emod_eq_of_lt (by omega) (by omega)]
    rw [e, List.getD_eq_getElem?_getD, List.getElem?_append_right (by rw [List.length_drop]; omega), List.getElem?_take, if_pos (by rw [List.length_drop]; omega), List.getD_eq_getElem?_getD]
    congr 2
    rw [List.length_drop]
    omega
theorem sIx_of {n d : Nat} {a : Int} (h0 : 0 ≤ a) (h1 : a ≤ (n : Int)) : HT.sIx n d (some a) = a.toNat := by
  have h := HT.sIx_nat n d a.toNat
  rw [Int.toNat_of_nonneg h0] at h
  rw [h]
  omega
theorem cutD_from {xs : List D} {a : Int} (h0 : 0 ≤ a) (h1 : a ≤ (xs.length : Int)) : PD.cutD xs (some a) none = xs.drop a.toNat := by
  unfold PD.cutD
  rw [sIx_of h0 h1, HT.sIx_none, List.take_of_length_le (by rw [List.length_drop]; omega)]
theorem cutD_to {xs : List D} {a : Int} (h0 : 0 ≤ a) (h1 : a ≤ (xs.length : Int)) : PD.cutD xs none (some a) = xs.take a.toNat := by
  unfold PD.cutD
  rw [sIx_of h0 h1, HT.sIx_none]
  rfl
theorem iL_drop (l : List Int) (a : Nat) : (iL l).drop a = iL (l.drop a) := by unfold iL; rw [List.map_drop]
theorem iL_take (l : List Int) (a : Nat) : (iL l).take a = iL (l.take a) := by unfold iL; rw [List.map_take]
end Sw

namespace Sw
open PySem PySem.Spec PyProof.Rows L2 PD
local macro_rules | `(tactic| walk_at "ev") => `(tactic| simp only [sSeq, sAsg, sRet, sRetN, sIf, sDrop, sNx, sPar, sPar3, gN, gT, gsCons, gsNil, dV, dC, dI, dOp, dUn, dCh, dB, dAnd, dOr, dNot, dAndV, dOrV, dNotV, dIf, dNil, dCons, dTup, dLst, dCB, dCall, dSetLen, sTry, hdlD, dkRun, dkCls, dI0, dI2, rdLen, rdIsi, rdIsiT, rdIx, dGet_eq, rdGet_size, rdGet_share, rdGet_ways,
  sFor_eq, dLc_eq, iTp, iLs, iSc, iR1, iR2, iEnT, iEnL, iEnS, wipeD_nil, wipeD_cons, sOpen, dShut, sBrk, sCnt, sNever, dNeg, dPart, dNoPart, dSl, sAug, sSetL, dApp, dPopAt, dNewL, dNewCat, dToRng, sPut, dMake, finG, sRaise0, sRaise1, sFrz, dNewRep, dNewList, dPop, dStar, dUn,
  rdEq_i, rdNe_i, sI_2, ixN_0, ixN_1, Cell.lst.injEq, rdInt_i, rdInt_b, rdAbs_i, rdMax2_i, eqD_int, eqOk_int, cellD_int, eqD_bl, eqOk_bl, cellD_bl, eqOk_non, seqOf_lst, seqOf_tup, lstOf_lst, atD_0, atD_1, atD_2, List.set_set, cellD_lst, cellD_tup, iL_cons, iL_nil, iL_len,
  startD, bodyN, List.map_cons, List.map_nil, List.length_cons, List.length_nil, List.replicate_succ, List.replicate_zero, List.cons_append, List.nil_append, List.append_nil, List.getElem?_cons_zero, List.getElem?_cons_succ, List.set_cons_zero, List.set_cons_succ, Nat.reduceSub, Nat.reduceAdd, Nat.zero_add,
  Option.some.injEq, exists_eq_left', exists_eq_left, D.int.injEq, D.bl.injEq, D.lst.injEq, D.tup.injEq, D.str.injEq, D.ptr.injEq, D.scr.injEq, D.gm.injEq, List.cons.injEq, and_true, true_and, exists_and_left, exists_and_right, D.ty.injEq, and_assoc, ↓reduceIte, eq_self, Bool.not_true, Bool.not_false, Bool.false_eq_true, decide_true, decide_false])
/-! SwU: what the rounds keep: sums, bounds. -/
section
variable {n s : Int} {ws l : List Int}
theorem list_rng (hl : (l.length : Int) = n) : l = (rngL 0 n.toNat).map (vl l) := by
  refine List.ext_getElem? fun i => ?_
  unfold rngL
  rw [List.map_map, List.getElem?_map]
  by_cases hi : i < l.length
  · rw [List.getElem?_range (by omega), List.getElem?_eq_getElem hi]
    show some l[i] = some (vl l (0 + (i : Int)))
    unfold vl
    rw [Int.zero_add, Int.toNat_natCast, List.getD_eq_getElem?_getD, List.getElem?_eq_getElem hi]
    rfl
  · rw [List.getElem?_eq_none (by omega), List.getElem?_eq_none (by rw [List.length_range]; omega)]
    rfl
theorem sum_swap (f : Int → Int → Int) (xs : List Int) : ∀ ws : List Int, (xs.map fun x => (ws.map (f x)).sum).sum = (ws.map fun w => (xs.map fun x => f x w).sum).sum
  | [] => by
    have : (xs.map fun x => (([] : List Int).map (f x)).sum) = xs.map fun _ => 0 := rfl
    rw [this, sum_const (f := fun _ => 0) (c := 0) fun _ _ => rfl]
    simp
  | w :: ws => by
    have : (xs.map fun x => ((w :: ws).map (f x)).sum) = xs.map fun x => f x w + (ws.map (f x)).sum := List.map_congr_left fun x _ => by rw [List.map_cons, List.sum_cons]
    rw [this, sum_add (fun x => f x w) (fun x => (ws.map (f x)).sum), sum_swap f xs ws, List.map_cons, List.sum_cons]
theorem sum_mul (c : Int) (f : Int → Int) : ∀ xs : List Int, (xs.map fun x => c * f x).sum = c * (xs.map f).sum
  | [] => by simp
  | x :: xs => by rw [List.map_cons, List.sum_cons, sum_mul c f xs, List.map_cons, List.sum_cons, Int.mul_add]
theorem mem_rng {z : Int} : z ∈ rngL 0 n.toNat ↔ 0 ≤ z ∧ z < n := by
  unfold rngL
  rw [List.mem_map]
  constructor
  · rintro ⟨i, hi, rfl⟩
    have := List.mem_range.mp hi
    omega
  · rintro ⟨h0, h1⟩
    exact ⟨z.toNat, List.mem_range.mpr (by omega), by omega⟩
/-- the sum of what stands some places back -/
theorem sum_back (hn : 0 < n) (u : Int → Int) {w : Int} (h0 : 0 ≤ w) (h1 : w < n) : ((rngL 0 n.toNat).map fun x => u ((x - w) % n)).sum = ((rngL 0 n.toNat).map u).sum := by
  have hU : (((rngL 0 n.toNat).map u).length : Int) = n := by unfold rngL; rw [List.length_map, List.length_map, List.length_range]; omega
  have hv : ∀ x, 0 ≤ x → x < n → vl ((rngL 0 n.toNat).map u) x = u x := fun x x0 x1 => by
    unfold vl rngL
    rw [List.getD_eq_getElem?_getD, List.map_map, List.getElem?_map, List.getElem?_range (by omega)]
    show u (0 + ((x.toNat : Nat) : Int)) = u x
    rw [Int.zero_add, Int.toNat_of_nonneg x0]
  by_cases hw : w = 0
  · subst hw
    congr 1
    refine List.map_congr_left fun x hx => ?_
    obtain ⟨x0, x1⟩ := mem_rng.mp hx
    rw [Int.sub_zero, Int.emod_eq_of_lt x0 x1]
  · have hr := rot_sum (n - w).toNat ((rngL 0 n.toNat).map u)
    rw [← hr]
    have hlen : ((rot (n - w).toNat ((rngL 0 n.toNat).map u)).length : Int) = n := by rw [rot_len (by omega)]; exact hU
    rw [list_rng hlen]
    congr 1
    refine List.map_congr_left fun x hx => ?_
    obtain ⟨x0, x1⟩ := mem_rng.mp hx
    rw [vl_rot hU (by omega) x0 x1, hv _ (Int.emod_nonneg _ (by omega)) (Int.emod_lt_of_pos _ (by omega))]
    congr 1
    rw [show x + (((n - w).toNat : Nat) : Int) = x - w + n by omega, Int.add_emod_right]
theorem pass_sum (ok : GOk n s ws) (hl : (l.length : Int) = n) : (passL n s ws l).sum = (fillL s l).sum := by
  have hn2 := ok.n2
  have hs2 := ok.s2
  have hp : ((passL n s ws l).length : Int) = n := by rw [passL_len]; omega
  have e1 : (passL n s ws l).sum = ((rngL 0 n.toNat).map fun x => (s - (ws.length : Int)) * un s l x + (ws.map fun w => un s l ((x - w) % n)).sum).sum := by
    rw [list_rng hp]
    congr 1
    refine List.map_congr_left fun x hx => ?_
    obtain ⟨x0, x1⟩ := mem_rng.mp hx
    exact pass_at ok hl x0 x1
  have e2 : fillL s l = (rngL 0 n.toNat).map fun x => s * un s l x := by
    unfold fillL
    conv => lhs; rw [list_rng hl]
    rw [List.map_map]
    refine List.map_congr_left fun x _ => ?_
    show fillN s (vl l x) = _
    rw [← un_eq hs2, Int.mul_comm]
  rw [e1, e2, sum_add (fun x => (s - (ws.length : Int)) * un s l x) (fun x => (ws.map fun w => un s l ((x - w) % n)).sum), sum_swap (fun x w => un s l ((x - w) % n)), sum_mul, sum_mul]
  rw [sum_const (ws := ws) (c := ((rngL 0 n.toNat).map (un s l)).sum) fun w hw => sum_back (by omega) (un s l) (by have := ok.w w hw; omega) (by have := ok.w w hw; omega), Int.sub_mul]
  omega
theorem fill_sum (h : 2 ≤ s) : ∀ l : List Int, l.sum ≤ (fillL s l).sum
  | [] => Int.le_refl _
  | x :: l => by
    have h1 := fill_sum h l
    have h2 := fill_ge h x
    unfold fillL at h1 ⊢
    rw [List.map_cons, List.sum_cons, List.sum_cons]
    omega
theorem it_sum (ok : GOk n s ws) (hl : (l.length : Int) = n) : ∀ t, l.sum ≤ (itP n s ws l t).sum
  | 0 => Int.le_refl _
  | t + 1 => by
    have h1 := it_sum ok hl t
    have h2 := pass_sum ok (itP_len (s := s) (ws := ws) hl t)
    have h3 := fill_sum ok.s2 (itP n s ws l t)
    show l.sum ≤ (passL n s ws (itP n s ws l t)).sum
    omega
/-- in a ring the parts stay between the least and the greatest -/
theorem un_between (ok : GOk n s ws) (hl : (l.length : Int) = n) {f : Nat} {m M : Int} (h : ∀ y ∈ rgs n ws f, m ≤ un s l y ∧ un s l y ≤ M) : ∀ t, ∀ x ∈ rgs n ws f, m ≤ un s (itP n s ws l t) x ∧ un s (itP n s ws l t) x ≤ M
  | 0, x, hx => h x hx
  | t + 1, x, hx => by
    have ih := un_between ok hl h t
    have hx2 := mem_rgs.mp hx
    exact ⟨un_ge ok (itP_len hl t) hx2.1 hx2.2.1 (ih x hx).1 fun w hw => (ih _ (rgs_back ok hx hw)).1, un_le ok (itP_len hl t) hx2.1 hx2.2.1 (ih x hx).2 fun w hw => (ih _ (rgs_back ok hx hw)).2⟩
theorem un_all (ok : GOk n s ws) (hl : (l.length : Int) = n) {m M : Int} (h : ∀ y, 0 ≤ y → y < n → m ≤ un s l y ∧ un s l y ≤ M) (t : Nat) {x : Int} (x0 : 0 ≤ x) (x1 : x < n) : m ≤ un s (itP n s ws l t) x ∧ un s (itP n s ws l t) x ≤ M := by
  obtain ⟨g1, g2, g3, g4⟩ := gW_dvd ok
  have a := Int.emod_nonneg x (by omega : ((gW n ws : Nat) : Int) ≠ 0)
  exact un_between ok hl (f := (x % ((gW n ws : Nat) : Int)).toNat) (fun y hy => h y (mem_rgs.mp hy).1 (mem_rgs.mp hy).2.1) t x (mem_rgs.mpr ⟨x0, x1, by omega⟩)
theorem it_plus (a : Nat) : ∀ t, itP n s ws (itP n s ws l a) t = itP n s ws l (a + t)
  | 0 => rfl
  | t + 1 => by
    show passL n s ws (itP n s ws (itP n s ws l a) t) = _
    rw [it_plus a t]
    rfl
/-- numbers of thirty figures stay so -/
theorem it_ok (ok : GOk n s ws) {B : Int} (sok : (l.length : Int) = n ∧ ∀ x ∈ l, 0 ≤ x ∧ x ≤ B) (hB : B ≤ 10 ^ 30 - 8) (t : Nat) : SwOk n (itP n s ws l t) := by
  have hl := sok.1
  have hs2 := ok.s2
  have hs9 := ok.s9
  have hls := ok.ls
  have hb : ∀ y, 0 ≤ y → y < n → 0 ≤ vl l y ∧ vl l y ≤ B := fun y y0 y1 => by
    have : vl l y ∈ l := by
      unfold vl
      rw [List.getD_eq_getElem?_getD, List.getElem?_eq_getElem (by omega)]
      exact List.getElem_mem _
    exact sok.2 _ this
  refine ⟨itP_len hl t, fun v hv => ?_⟩
  rw [list_rng (itP_len (s := s) (ws := ws) hl t)] at hv
  obtain ⟨x, hx, rfl⟩ := List.mem_map.mp hv
  obtain ⟨x0, x1⟩ := mem_rng.mp hx
  cases t with
  | zero => have := hb x x0 x1; show 0 ≤ vl l x ∧ vl l x ≤ 10 ^ 30; omega
  | succ t =>
    have hu : ∀ y, 0 ≤ y → y < n → 0 ≤ un s l y ∧ un s l y ≤ (B + s - 1) / s := fun y y0 y1 => by
      have h := hb y y0 y1
      have e : un s l y = (vl l y + s - 1) / s := by unfold un fillN; rw [Int.mul_ediv_cancel _ (by omega)]
      rw [e]
      exact ⟨Int.ediv_nonneg (by omega) (by omega), Int.ediv_le_ediv (by omega) (by omega)⟩
    have ha : ∀ y, 0 ≤ y → y < n → 0 ≤ un s (itP n s ws l t) y ∧ un s (itP n s ws l t) y ≤ (B + s - 1) / s := fun y y0 y1 => un_all ok hl hu t y0 y1
    have hw : ∀ w ∈ ws, 0 ≤ un s (itP n s ws l t) ((x - w) % n) ∧ un s (itP n s ws l t) ((x - w) % n) ≤ (B + s - 1) / s := fun w _ => ha _ (Int.emod_nonneg _ (by omega)) (Int.emod_lt_of_pos _ (by omega))
    have e := pass_at ok (itP_len (s := s) (ws := ws) hl t) x0 x1
    show 0 ≤ vl (passL n s ws (itP n s ws l t)) x ∧ vl (passL n s ws (itP n s ws l t)) x ≤ 10 ^ 30
    rw [e]
    have h1 := sum_ge (f := fun w => un s (itP n s ws l t) ((x - w) % n)) fun w hw' => (hw w hw').1
    have h2 := sum_le (f := fun w => un s (itP n s ws l t) ((x - w) % n)) fun w hw' => (hw w hw').2
    have h3 := ha x x0 x1
    have h4 : 0 ≤ (s - (ws.length : Int)) * un s (itP n s ws l t) x := Int.mul_nonneg (by omega) h3.1
    have h5 : (s - (ws.length : Int)) * un s (itP n s ws l t) x ≤ (s - (ws.length : Int)) * ((B + s - 1) / s) := Int.mul_le_mul_of_nonneg_left h3.2 (by omega)
    have h6 : s * ((B + s - 1) / s) ≤ B + s - 1 := Int.mul_ediv_self_le (by omega)
    rw [Int.sub_mul s (ws.length : Int) ((B + s - 1) / s)] at h5
    rw [Int.mul_zero] at h1
    omega
end
end Sw

namespace Sw
/-! SwM: rings come to an end in few rounds: the squares below the greatest shrink. -/
theorem sqn (a : Int) : 0 ≤ a * a := by
  rcases Int.le_total 0 a with h | h
  · exact Int.mul_nonneg h h
  · exact Int.mul_nonneg_of_nonpos_of_nonpos h h
def sqs (b : List Int) : Int := (b.map fun x => x * x).sum
theorem sqs_nn : ∀ b : List Int, 0 ≤ sqs b
  | [] => Int.le_refl _
  | x :: b => by
    have h := sqs_nn b
    have h2 := sqn x
    have e : sqs (x :: b) = x * x + sqs b := rfl
    omega
def dif (a : Int) (b : List Int) : Int := (b.map fun x => (a - x) * (a - x)).sum
theorem dif_nn (a : Int) : ∀ b : List Int, 0 ≤ dif a b
  | [] => Int.le_refl _
  | x :: b => by
    have h := dif_nn a b
    have h2 := sqn (a - x)
    have e : dif a (x :: b) = (a - x) * (a - x) + dif a b := rfl
    omega
theorem dif_eq (a : Int) : ∀ b : List Int, dif a b = (b.length : Int) * (a * a) - 2 * a * b.sum + sqs b
  | [] => by simp [dif, sqs]
  | x :: b => by
    have h := dif_eq a b
    have e : dif a (x :: b) = (a - x) * (a - x) + dif a b := rfl
    have e2 : sqs (x :: b) = x * x + sqs b := rfl
    rw [e, e2, h, List.sum_cons, List.length_cons]
    grind
theorem cs : ∀ b : List Int, b.sum * b.sum ≤ (b.length : Int) * sqs b
  | [] => by simp [sqs]
  | x :: b => by
    have h := cs b
    have h2 := dif_nn x b
    rw [dif_eq] at h2
    have e2 : sqs (x :: b) = x * x + sqs b := rfl
    rw [e2, List.sum_cons, List.length_cons]
    grind
theorem mixed (κ s a : Int) (b : List Int) (hs : s = κ + b.length) : (κ * a + b.sum) * (κ * a + b.sum) ≤ s * (κ * (a * a) + sqs b) - κ * dif a b := by
  have h := cs b
  rw [dif_eq]
  subst hs
  grind
/-! sums over a ring -/
def Sm (m : Nat) (f : Int → Int) : Int := ((List.range m).map fun (j : Nat) => f (j : Int)).sum
theorem S_succ (m : Nat) (f : Int → Int) : Sm (m + 1) f = Sm m f + f (m : Int) := by
  unfold Sm
  rw [List.range_succ, List.map_append, List.sum_append]
  simp
theorem S_congr {m : Nat} {f g : Int → Int} (h : ∀ j : Nat, j < m → f j = g j) : Sm m f = Sm m g := by
  unfold Sm
  congr 1
  exact List.map_congr_left fun j hj => h j (List.mem_range.mp hj)
theorem S_le {f g : Int → Int} : ∀ {m : Nat}, (∀ j : Nat, j < m → f j ≤ g j) → Sm m f ≤ Sm m g
  | 0, _ => Int.le_refl _
  | m + 1, h => by
    rw [S_succ, S_succ]
    have := S_le (m := m) fun j hj => h j (by omega)
    have := h m (by omega)
    omega
theorem S_add (f g : Int → Int) : ∀ m : Nat, Sm m (fun j => f j + g j) = Sm m f + Sm m g
  | 0 => rfl
  | m + 1 => by rw [S_succ, S_succ, S_succ, S_add f g m]; omega
theorem S_mul (c : Int) (f : Int → Int) : ∀ m : Nat, Sm m (fun j => c * f j) = c * Sm m f
  | 0 => by show (0 : Int) = c * 0; omega
  | m + 1 => by rw [S_succ, S_succ, S_mul c f m, Int.mul_add]
theorem S_const (c : Int) : ∀ m : Nat, Sm m (fun _ => c) = (m : Int) * c
  | 0 => by show (0 : Int) = _; simp
  | m + 1 => by rw [S_succ, S_const c m]; grind
theorem S_zero {f : Int → Int} (h0 : ∀ j, 0 ≤ f j) : ∀ {m : Nat}, Sm m f ≤ 0 → ∀ j : Nat, j < m → f j = 0
  | 0, _, j, hj => by omega
  | m + 1, h, j, hj => by
    rw [S_succ] at h
    have nn : 0 ≤ Sm m f := by
      have e := S_le (m := m) (f := fun _ => 0) (g := f) fun j _ => h0 j
      rw [S_const] at e
      simpa using e
    have hm := h0 m
    by_cases e : j = m
    · subst e; omega
    · exact S_zero h0 (m := m) (by omega) j (by omega)
theorem S_front (f : Int → Int) : ∀ m : Nat, Sm (m + 1) f = f 0 + Sm m (fun j => f (j + 1))
  | 0 => by rw [S_succ]; show 0 + f 0 = f 0 + 0; omega
  | m + 1 => by
    rw [S_succ, S_front f m, S_succ]
    have : ((m + 1 : Nat) : Int) = (m : Int) + 1 := by omega
    rw [this]
    omega
def Per (m : Nat) (f : Int → Int) : Prop := ∀ j, f (j + m) = f j
theorem Per.nat {m : Nat} {f : Int → Int} (h : Per m f) (j : Int) : ∀ k : Nat, f (j + k * m) = f j
  | 0 => by congr 1; omega
  | k + 1 => by
    have e : j + ((k + 1 : Nat) : Int) * m = (j + k * m) + m := by grind
    rw [e, h, h.nat j k]
theorem Per.int {m : Nat} {f : Int → Int} (h : Per m f) (j k : Int) : f (j + k * m) = f j := by
  rcases Int.le_total 0 k with q | q
  · have := h.nat j k.toNat
    rwa [Int.toNat_of_nonneg q] at this
  · have := h.nat (j + k * m) (-k).toNat
    rw [Int.toNat_of_nonneg (by omega)] at this
    rw [← this]
    congr 1
    grind
theorem Per.mod {m : Nat} {f : Int → Int} (h : Per m f) (j : Int) : f (j % m) = f j := by
  have := h.int (j % m) (j / m)
  rw [← this]
  congr 1
  have := Int.emod_add_mul_ediv j m
  grind
theorem Per.shift {m : Nat} {f : Int → Int} (h : Per m f) (a : Int) : Per m fun j => f (j + a) := fun j => by
  show f (j + m + a) = f (j + a)
  rw [show j + (m : Int) + a = (j + a) + m by omega, h]
theorem S_rot1 {m : Nat} {f : Int → Int} (h : Per m f) : Sm m (fun j => f (j + 1)) = Sm m f := by
  have e1 := S_front f m
  have e2 := S_succ m f
  have e3 : f (m : Int) = f 0 := by have := h 0; rwa [Int.zero_add] at this
  omega
theorem S_rotN {m : Nat} {f : Int → Int} (h : Per m f) : ∀ a : Nat, Sm m (fun j => f (j + a)) = Sm m f
  | 0 => S_congr fun j _ => by simp
  | a + 1 => by
    have e := S_rot1 (h.shift a)
    rw [S_rotN h a] at e
    rw [← e]
    exact S_congr fun j _ => by congr 1; omega
theorem S_rot {m : Nat} (hm : 0 < m) {f : Int → Int} (h : Per m f) (a : Int) : Sm m (fun j => f (j + a)) = Sm m f := by
  have h0 := Int.emod_nonneg a (by omega : (m : Int) ≠ 0)
  have e := S_rotN h (a % m).toNat
  rw [Int.toNat_of_nonneg h0] at e
  rw [← e]
  refine S_congr fun j _ => ?_
  have e2 := h.int (j + a % m) (a / m)
  rw [← e2]
  congr 1
  have := Int.emod_add_mul_ediv a m
  grind
/-! the tree of a ring -/
inductive Tree (m : Nat) (ws : List Nat) : List (Nat × Nat) → Prop
  | root : Tree m ws [(0, 0)]
  | add {L : List (Nat × Nat)} {o p w : Nat} : Tree m ws L → (o, p) ∈ L → w ∈ ws → (∀ y ∈ L, y.1 ≠ (o + w) % m) → Tree m ws (((o + w) % m, p + 1) :: L)
noncomputable def cost (L : List (Nat × Nat)) : Nat := L.rec 0 fun y _ ih => Bool.rec (y.2 + ih) ih (Nat.ble y.2 1)
theorem cost_cons (y : Nat × Nat) (L : List (Nat × Nat)) : cost (y :: L) = (if y.2 ≤ 1 then 0 else y.2) + cost L := by
  show (Bool.rec (y.2 + cost L) (cost L) (Nat.ble y.2 1) : Nat) = _
  by_cases h : y.2 ≤ 1
  · rw [Nat.ble_eq.mpr h, if_pos h]; simp
  · have : Nat.ble y.2 1 = false := by
      cases e : Nat.ble y.2 1 with
      | false => rfl
      | true => exact absurd (Nat.ble_eq.mp e) h
    rw [this, if_neg h]
def tS (L : List (Nat × Nat)) (f : Int → Int) : Int := (L.map fun (y : Nat × Nat) => f (y.1 : Int)).sum
theorem tS_cons (y : Nat × Nat) (L : List (Nat × Nat)) (f : Int → Int) : tS (y :: L) f = f (y.1 : Int) + tS L f := rfl
/-- what the steps into a place differ -/
def dfs (ws : List Nat) (V : Int → Int) (j : Int) : Int := dif (V j) (ws.map fun (w : Nat) => V (j - (w : Int)))
theorem dif_mem {a : Int} : ∀ {b : List Int} {x : Int}, x ∈ b → (a - x) * (a - x) ≤ dif a b
  | y :: b, x, h => by
    have e : dif a (y :: b) = (a - y) * (a - y) + dif a b := rfl
    rcases List.mem_cons.mp h with rfl | h
    · have := dif_nn a b; omega
    · have := dif_mem (a := a) h
      have := sqn (a - y)
      omega
theorem D_nn (ws : List Nat) (V : Int → Int) (j : Int) : 0 ≤ dfs ws V j := dif_nn _ _
theorem D_edge {m : Nat} {ws : List Nat} {V : Int → Int} (hV : Per m V) {o w : Nat} (hw : w ∈ ws) : (V (((o + w) % m : Nat) : Int) - V (o : Int)) * (V (((o + w) % m : Nat) : Int) - V (o : Int)) ≤ dfs ws V (((o + w) % m : Nat) : Int) := by
  refine dif_mem ?_
  refine List.mem_map.mpr ⟨w, hw, ?_⟩
  have e := hV.int ((((o + w) % m : Nat) : Int) - w) (((o + w) / m : Nat) : Int)
  rw [← e]
  congr 1
  have := Nat.mod_add_div (o + w) m
  have h2 : (((o + w) % m : Nat) : Int) + (m : Int) * (((o + w) / m : Nat) : Int) = (o : Int) + w := by
    exact_mod_cast this
  grind
theorem walk_sq (p a d E : Int) (hp : 1 ≤ p) (h : a * a ≤ p * E) : (a + d) * (a + d) ≤ (p + 1) * (E + d * d) := by
  have h1 := sqn (a - p * d)
  have h2 : p * ((a + d) * (a + d)) ≤ (p + 1) * (a * a + p * (d * d)) := by grind
  have h3 : (p + 1) * (a * a + p * (d * d)) ≤ (p + 1) * (p * E + p * (d * d)) := Int.mul_le_mul_of_nonneg_left (by omega) (by omega)
  have h4 : p * ((a + d) * (a + d)) ≤ p * ((p + 1) * (E + d * d)) := by grind
  exact Int.le_of_mul_le_mul_left h4 (by omega)
theorem Tree.sq {m : Nat} {ws : List Nat} {V : Int → Int} (hV : Per m V) (h0 : V 0 = 0) : ∀ {L : List (Nat × Nat)}, Tree m ws L →
    (∀ y ∈ L, V (y.1 : Int) * V (y.1 : Int) ≤ (y.2 : Int) * tS L (dfs ws V)) ∧ 0 ≤ tS L (dfs ws V) ∧ tS L (fun j => V j * V j) ≤ (1 + (cost L : Int)) * tS L (dfs ws V) := by
  intro L h
  induction h with
  | root =>
    have := D_nn ws V 0
    have e : tS [(0, 0)] (dfs ws V) = dfs ws V 0 := by simp [tS]
    refine ⟨fun y hy => ?_, by rw [e]; exact this, ?_⟩
    · rw [List.mem_singleton] at hy
      subst hy
      simp [h0]
    · have e2 : tS [(0, 0)] (fun j => V j * V j) = 0 := by simp [tS, h0]
      rw [e2, e]
      have : cost [(0, 0)] = 0 := rfl
      rw [this]
      simpa using D_nn ws V 0
  | @add L o p w t hm hw hn ih =>
    obtain ⟨i1, i2, i3⟩ := ih
    have hd := D_edge hV (o := o) hw
    have io := i1 _ hm
    dsimp only at io
    generalize hx : (o + w) % m = x at *
    generalize hE : tS L (dfs ws V) = E at *
    have hDx := D_nn ws V (x : Int)
    have hnew : V (x : Int) * V (x : Int) ≤ ((p + 1 : Nat) : Int) * (dfs ws V (x : Int) + E) := by
      by_cases hp : p = 0
      · subst hp
        have z : V (o : Int) = 0 := by
          have := sqn (V (o : Int))
          have e : V (o : Int) * V (o : Int) = 0 := by
            have : ((0 : Nat) : Int) * E = 0 := by simp
            omega
          rcases Int.mul_eq_zero.mp e with q | q <;> exact q
        rw [z, Int.sub_zero] at hd
        simp
        omega
      · have hw2 := walk_sq (p : Int) (V (o : Int)) (V (x : Int) - V (o : Int)) E (by omega) io
        rw [show V (o : Int) + (V (x : Int) - V (o : Int)) = V (x : Int) by omega] at hw2
        refine Int.le_trans hw2 ?_
        have e : ((p + 1 : Nat) : Int) = (p : Int) + 1 := by omega
        rw [e]
        exact Int.mul_le_mul_of_nonneg_left (by omega) (by omega)
    refine ⟨fun y hy => ?_, by rw [tS_cons]; dsimp only; omega, ?_⟩
    · rw [tS_cons]
      dsimp only
      rw [hE]
      rcases List.mem_cons.mp hy with rfl | hy
      · exact hnew
      · refine Int.le_trans (i1 y hy) ?_
        exact Int.mul_le_mul_of_nonneg_left (by omega) (by omega)
    · rw [tS_cons, tS_cons]
      dsimp only
      rw [hE]
      have hc : cost ((x, p + 1) :: L) = (if p + 1 ≤ 1 then 0 else p + 1) + cost L := cost_cons _ _
      rw [hc]
      by_cases hp : p = 0
      · subst hp
        have z : V (o : Int) = 0 := by
          have := sqn (V (o : Int))
          have e : V (o : Int) * V (o : Int) = 0 := by
            have : ((0 : Nat) : Int) * E = 0 := by simp
            omega
          rcases Int.mul_eq_zero.mp e with q | q <;> exact q
        rw [z, Int.sub_zero] at hd
        simp
        have h1 : (1 + (cost L : Int)) * E ≤ (1 + (cost L : Int)) * (dfs ws V (x : Int) + E) := Int.mul_le_mul_of_nonneg_left (by omega) (by omega)
        have h2 : 0 ≤ (cost L : Int) * dfs ws V (x : Int) := Int.mul_nonneg (by omega) hDx
        grind
      · rw [if_neg (by omega)]
        have h1 : (1 + (cost L : Int)) * E ≤ (1 + (cost L : Int)) * (dfs ws V (x : Int) + E) := Int.mul_le_mul_of_nonneg_left (by omega) (by omega)
        have e : ((p + 1 + cost L : Nat) : Int) = ((p + 1 : Nat) : Int) + (cost L : Int) := by omega
        rw [e]
        grind

/-! the tree is found by a search -/
noncomputable def has (x : Nat) (L : List (Nat × Nat)) : Bool := L.rec false (fun y _ ih => Bool.rec ih true (Nat.beq y.1 x))
noncomputable def grow (m : Nat) (o p : Nat) (r : List Nat) : List (Nat × Nat) → List (Nat × Nat) :=
  r.rec (fun L => L) (fun w _ ih L => (fun x => Bool.rec (ih ((x, p + 1) :: L)) (ih L) (has x L)) ((o + w) % m))
noncomputable def layer (m : Nat) (ws : List Nat) (old : List (Nat × Nat)) (p : Nat) : List (Nat × Nat) → List (Nat × Nat) :=
  old.rec (fun L => L) (fun y _ ih L => Bool.rec (ih L) (ih (grow m y.1 p ws L)) (Nat.beq y.2 p))
noncomputable def seek (m : Nat) (ws : List Nat) (i : Nat) : Nat → List (Nat × Nat) → List (Nat × Nat) :=
  i.rec (fun _ L => L) (fun _ ih p L => Bool.rec (ih (p+1) (layer m ws L p L)) L (Nat.beq L.length m))
noncomputable def gcdL (m : Nat) (ws : List Nat) : Nat := ws.rec m fun w _ ih => Nat.gcd w ih
noncomputable def okS (k C : Nat) (i : Nat) : Bool := i.rec true fun s ih => Bool.rec ih (and (Nat.ble (s * s * C) (669 * (s - k))) ih) (Nat.blt k s)
noncomputable def cov (L : List (Nat × Nat)) (m : Nat) : Bool := m.rec true fun x ih => and (has x L) ih
noncomputable def chk (m : Nat) (ws : List Nat) : Bool := Bool.rec true ((fun L => and (cov L m) (okS ws.length (1 + cost L) 10)) (seek m ws m 0 [(0,0)])) (Nat.beq (gcdL m ws) 1)
noncomputable def allAsc (m : Nat) (n : Nat) : Nat → List Nat → Bool := n.rec (fun _ ws => chk m ws) (fun _ ih lo ws => and (ih (lo + 1) ws) (ih (lo + 1) (lo :: ws)))
theorem has_iff (x : Nat) : ∀ L : List (Nat × Nat), has x L = true ↔ ∃ y ∈ L, y.1 = x
  | [] => by
    show false = true ↔ _
    simp
  | y :: L => by
    have e : has x (y :: L) = Bool.rec (has x L) true (Nat.beq y.1 x) := rfl
    have ih := has_iff x L
    rw [e]
    cases h : Nat.beq y.1 x with
    | true =>
      have := Nat.eq_of_beq_eq_true h
      exact ⟨fun _ => ⟨y, List.mem_cons_self, this⟩, fun _ => rfl⟩
    | false =>
      have hn : y.1 ≠ x := Nat.ne_of_beq_eq_false h
      show has x L = true ↔ _
      rw [ih]
      constructor
      · rintro ⟨z, hz, e⟩; exact ⟨z, List.mem_cons_of_mem _ hz, e⟩
      · rintro ⟨z, hz, ez⟩
        rcases List.mem_cons.mp hz with rfl | hz
        · exact absurd ez hn
        · exact ⟨z, hz, ez⟩
theorem grow_ok {m : Nat} {ws : List Nat} {o p : Nat} : ∀ (r : List Nat) (L : List (Nat × Nat)), (∀ w ∈ r, w ∈ ws) → Tree m ws L → (o, p) ∈ L → Tree m ws (grow m o p r L) ∧ ∀ y ∈ L, y ∈ grow m o p r L
  | [], _, _, h, _ => ⟨h, fun _ h => h⟩
  | w :: r, L, hr, h, hm => by
    have e : grow m o p (w :: r) L = Bool.rec (grow m o p r (((o + w) % m, p + 1) :: L)) (grow m o p r L) (has ((o + w) % m) L) := rfl
    rw [e]
    cases c : has ((o + w) % m) L with
    | true => exact grow_ok r L (fun x hx => hr x (List.mem_cons_of_mem _ hx)) h hm
    | false =>
      obtain ⟨a, b⟩ := grow_ok r (((o + w) % m, p + 1) :: L) (fun x hx => hr x (List.mem_cons_of_mem _ hx)) (.add h hm (hr w List.mem_cons_self) fun y hy e => by
        have := (has_iff ((o + w) % m) L).mpr ⟨y, hy, e⟩
        rw [c] at this
        cases this) (List.mem_cons_of_mem _ hm)
      exact ⟨a, fun y hy => b y (List.mem_cons_of_mem _ hy)⟩
theorem layer_ok {m : Nat} {ws : List Nat} {p : Nat} : ∀ (old L : List (Nat × Nat)), (∀ y ∈ old, y ∈ L) → Tree m ws L → Tree m ws (layer m ws old p L)
  | [], _, _, h => h
  | y :: old, L, ho, h => by
    have e : layer m ws (y :: old) p L = Bool.rec (layer m ws old p L) (layer m ws old p (grow m y.1 p ws L)) (Nat.beq y.2 p) := rfl
    rw [e]
    cases c : Nat.beq y.2 p with
    | false => exact layer_ok old L (fun z hz => ho z (List.mem_cons_of_mem _ hz)) h
    | true =>
      have hp := Nat.eq_of_beq_eq_true c
      have hy : (y.1, p) ∈ L := by
        have := ho y List.mem_cons_self
        rw [← hp]
        exact this
      obtain ⟨a, b⟩ := grow_ok ws L (fun _ h => h) h hy
      exact layer_ok old _ (fun z hz => b z (ho z (List.mem_cons_of_mem _ hz))) a
theorem seek_ok {m : Nat} {ws : List Nat} : ∀ (i p : Nat) (L : List (Nat × Nat)), Tree m ws L → Tree m ws (seek m ws i p L)
  | 0, _, _, h => h
  | i + 1, p, L, h => by
    have e : seek m ws (i + 1) p L = Bool.rec (seek m ws i (p + 1) (layer m ws L p L)) L (Nat.beq L.length m) := rfl
    rw [e]
    cases Nat.beq L.length m with
    | true => exact h
    | false => exact seek_ok i (p + 1) _ (layer_ok L L (fun _ h => h) h)
theorem cov_ok {L : List (Nat × Nat)} : ∀ m : Nat, cov L m = true → ∀ x, x < m → ∃ y ∈ L, y.1 = x
  | 0, _, x, hx => absurd hx (Nat.not_lt_zero _)
  | m + 1, h, x, hx => by
    have e : cov L (m + 1) = (has m L && cov L m) := rfl
    rw [e, Bool.and_eq_true] at h
    by_cases c : x = m
    · subst c; exact (has_iff x L).mp h.1
    · exact cov_ok m h.2 x (by omega)
theorem okS_ok {k C : Nat} : ∀ i : Nat, okS k C i = true → ∀ s, s < i → k < s → s * s * C ≤ 669 * (s - k)
  | 0, _, s, hs, _ => absurd hs (Nat.not_lt_zero _)
  | i + 1, h, s, hs, hk => by
    have e : okS k C (i + 1) = Bool.rec (okS k C i) (and (Nat.ble (i * i * C) (669 * (i - k))) (okS k C i)) (Nat.blt k i) := rfl
    rw [e] at h
    have split : okS k C i = true ∧ (k < i → i * i * C ≤ 669 * (i - k)) := by
      cases c : Nat.blt k i with
      | false =>
        rw [c] at h
        refine ⟨h, fun q => ?_⟩
        have : Nat.blt k i = true := Nat.ble_eq.mpr q
        rw [c] at this
        cases this
      | true =>
        rw [c] at h
        have h2 : (Nat.ble (i * i * C) (669 * (i - k)) && okS k C i) = true := h
        rw [Bool.and_eq_true] at h2
        exact ⟨h2.2, fun _ => Nat.ble_eq.mp h2.1⟩
    by_cases c : s = i
    · subst c; exact split.2 hk
    · exact okS_ok i split.1 s (by omega) hk
theorem tree_nodup {m : Nat} {ws : List Nat} {L : List (Nat × Nat)} (h : Tree m ws L) : (L.map (·.1)).Nodup := by
  induction h with
  | root => simp
  | add t hm hw hn ih =>
    rw [List.map_cons, List.nodup_cons]
    refine ⟨fun hx => ?_, ih⟩
    obtain ⟨y, hy, e⟩ := List.mem_map.mp hx
    exact hn y hy e
theorem tree_lt {m : Nat} {ws : List Nat} (hm0 : 0 < m) {L : List (Nat × Nat)} (h : Tree m ws L) : ∀ y ∈ L, y.1 < m := by
  induction h with
  | root => intro y hy; rw [List.mem_singleton] at hy; subst hy; exact hm0
  | add t hm hw hn ih =>
    intro y hy
    rcases List.mem_cons.mp hy with rfl | hy
    · exact Nat.mod_lt _ hm0
    · exact ih y hy
theorem perm_sum {a b : List Int} (h : a.Perm b) : a.sum = b.sum := by
  induction h with
  | nil => rfl
  | cons x _ ih => rw [List.sum_cons, List.sum_cons, ih]
  | swap x y l => rw [List.sum_cons, List.sum_cons, List.sum_cons, List.sum_cons]; omega
  | trans _ _ i1 i2 => exact i1.trans i2
theorem tS_eq {m : Nat} {ws : List Nat} (hm0 : 0 < m) {L : List (Nat × Nat)} (h : Tree m ws L) (hc : ∀ x, x < m → ∃ y ∈ L, y.1 = x) (f : Int → Int) : tS L f = Sm m f := by
  have hp : (L.map (·.1)).Perm (List.range m) := by
    rw [List.perm_iff_count]
    intro a
    by_cases ha : a < m
    · have h1 : a ∈ L.map (·.1) := by
        obtain ⟨y, hy, e⟩ := hc a ha
        exact List.mem_map.mpr ⟨y, hy, e⟩
      rw [(tree_nodup h).count, List.nodup_range.count, if_pos h1, if_pos (List.mem_range.mpr ha)]
    · rw [List.count_eq_zero_of_not_mem fun h1 => ?_, List.count_eq_zero_of_not_mem fun h1 => ha (List.mem_range.mp h1)]
      obtain ⟨y, hy, e⟩ := List.mem_map.mp h1
      have := tree_lt hm0 h y hy
      omega
  unfold tS Sm
  have := perm_sum (hp.map fun (j : Nat) => f (j : Int))
  rw [List.map_map] at this
  exact this
/-- of a ring whose steps hang together -/
structure Hang (m : Nat) (ws : List Nat) : Prop where
  sq : ∀ V : Int → Int, Per m V → V 0 = 0 → ∃ C : Nat, Sm m (fun j => V j * V j) ≤ (C : Int) * Sm m (dfs ws V) ∧ ∀ s, ws.length < s → s ≤ 9 → s * s * C ≤ 669 * (s - ws.length)
theorem hang_of {m : Nat} {ws : List Nat} (hm0 : 0 < m) (h : chk m ws = true) (hg : gcdL m ws = 1) : Hang m ws := by
  have e : chk m ws = Bool.rec true (and (cov (seek m ws m 0 [(0,0)]) m) (okS ws.length (1 + cost (seek m ws m 0 [(0,0)])) 10)) (Nat.beq (gcdL m ws) 1) := rfl
  rw [e, hg] at h
  have h2 : (cov (seek m ws m 0 [(0,0)]) m && okS ws.length (1 + cost (seek m ws m 0 [(0,0)])) 10) = true := h
  rw [Bool.and_eq_true] at h2
  have T := seek_ok m 0 _ (Tree.root (m := m) (ws := ws))
  have hc := cov_ok m h2.1
  refine ⟨fun V hV h0 => ⟨1 + cost (seek m ws m 0 [(0,0)]), ?_, fun s h1 h9 => okS_ok 10 h2.2 s (by omega) h1⟩⟩
  have := (T.sq hV h0).2.2
  rw [tS_eq hm0 T hc, tS_eq hm0 T hc] at this
  have e3 : ((1 + cost (seek m ws m 0 [(0,0)]) : Nat) : Int) = 1 + (cost (seek m ws m 0 [(0,0)]) : Int) := by omega
  rw [e3]
  exact this
theorem allAsc_ok {m : Nat} : ∀ (n lo : Nat) (ws : List Nat), allAsc m n lo ws = true → ∀ r : List Nat, (∀ x ∈ r, lo ≤ x ∧ x < lo + n) → r.Pairwise (· < ·) → chk m (r.reverse ++ ws) = true
  | 0, lo, ws, h, r, hr, _ => by
    cases r with
    | nil => exact h
    | cons x r => have := hr x List.mem_cons_self; omega
  | n + 1, lo, ws, h, r, hr, hp => by
    have e : allAsc m (n + 1) lo ws = (allAsc m n (lo + 1) ws && allAsc m n (lo + 1) (lo :: ws)) := rfl
    rw [e, Bool.and_eq_true] at h
    cases r with
    | nil => exact allAsc_ok n (lo + 1) ws h.1 [] (fun x hx => by cases hx) List.Pairwise.nil
    | cons x r =>
      rw [List.pairwise_cons] at hp
      have hx := hr x List.mem_cons_self
      by_cases c : x = lo
      · subst c
        have := allAsc_ok n (x + 1) (x :: ws) h.2 r (fun y hy => by have := hp.1 y hy; have := hr y (List.mem_cons_of_mem _ hy); omega) hp.2
        rw [List.reverse_cons, List.append_assoc]
        exact this
      · exact allAsc_ok n (lo + 1) ws h.1 (x :: r) (fun y hy => by
          rcases List.mem_cons.mp hy with rfl | hy2
          · omega
          · have := hp.1 y hy2; have := hr y hy; omega) (List.pairwise_cons.mpr hp)
set_option maxRecDepth 100000 in
theorem all6 : (allAsc 1 0 1 [] && allAsc 2 1 1 [] && allAsc 3 2 1 [] && allAsc 4 3 1 [] && allAsc 5 4 1 [] && allAsc 6 5 1 []) = true := by decide +kernel
/-! what a round does to a ring -/
def sumW (ws : List Nat) (h : Int → Int) (j : Int) : Int := (ws.map fun (w : Nat) => h (j - (w : Int))).sum
def stepH (s : Int) (ws : List Nat) (h : Int → Int) : Int → Int := fun j => ((s - (ws.length : Int)) * h j + sumW ws h j + s - 1) / s
def itH (s : Int) (ws : List Nat) (h : Int → Int) : Nat → Int → Int
  | 0 => h
  | t + 1 => stepH s ws (itH s ws h t)
theorem sumW_sub (M : Int) (h : Int → Int) (j : Int) : ∀ ws : List Nat, sumW ws (fun i => M - h i) j = (ws.length : Int) * M - sumW ws h j
  | [] => by simp [sumW]
  | w :: ws => by
    have e := sumW_sub M h j ws
    have e1 : sumW (w :: ws) (fun i => M - h i) j = (M - h (j - w)) + sumW ws (fun i => M - h i) j := rfl
    have e2 : sumW (w :: ws) h j = h (j - w) + sumW ws h j := rfl
    rw [e1, e2, e, List.length_cons]
    grind
theorem ceil_eq {s M X : Int} (hs : 0 < s) : (s * M - X + s - 1) / s = M - X / s := by
  have h1 := Int.emod_add_mul_ediv X s
  have h2 := Int.emod_nonneg X (by omega : s ≠ 0)
  have h3 := Int.emod_lt_of_pos X hs
  have e : s * M - X + s - 1 = (s - 1 - X % s) + (M - X / s) * s := by grind
  rw [e, Int.add_mul_ediv_right _ _ (by omega), Int.ediv_eq_zero_of_lt (by omega) (by omega), Int.zero_add]
theorem step_eq {s M : Int} {ws : List Nat} {h : Int → Int} (hs : 0 < s) (j : Int) : stepH s ws h j = M - ((s - (ws.length : Int)) * (M - h j) + sumW ws (fun i => M - h i) j) / s := by
  rw [← ceil_eq hs]
  unfold stepH
  rw [sumW_sub]
  congr 1
  grind
theorem sumW_nn {h : Int → Int} (h0 : ∀ i, 0 ≤ h i) (j : Int) : ∀ ws : List Nat, 0 ≤ sumW ws h j
  | [] => Int.le_refl _
  | w :: ws => by
    have e2 : sumW (w :: ws) h j = h (j - w) + sumW ws h j := rfl
    have := sumW_nn h0 j ws
    have := h0 (j - w)
    omega
theorem sumW_per {m : Nat} {h : Int → Int} (hp : Per m h) : ∀ ws : List Nat, Per m (sumW ws h)
  | [] => fun _ => rfl
  | w :: ws => fun j => by
    have e2 : ∀ j, sumW (w :: ws) h j = h (j - w) + sumW ws h j := fun _ => rfl
    rw [e2, e2, sumW_per hp ws j, show j + (m : Int) - w = (j - w) + m by omega, hp]
theorem step_per {m : Nat} {s : Int} {ws : List Nat} {h : Int → Int} (hp : Per m h) : Per m (stepH s ws h) := fun j => by
  unfold stepH
  rw [hp, sumW_per hp ws j]
theorem itH_per {m : Nat} {s : Int} {ws : List Nat} {h : Int → Int} (hp : Per m h) : ∀ t, Per m (itH s ws h t)
  | 0 => hp
  | t + 1 => step_per (itH_per hp t)
theorem D_per {m : Nat} {ws : List Nat} {h : Int → Int} (hp : Per m h) : Per m (dfs ws h) := fun j => by
  unfold dfs
  rw [hp]
  congr 1
  refine List.map_congr_left fun w _ => ?_
  rw [show j + (m : Int) - (w : Int) = (j - w) + m by omega, hp]
/-- the greatest of a ring -/
def Top (m : Nat) (h : Int → Int) (M : Int) : Prop := (∀ j, h j ≤ M) ∧ ∃ z : Int, h z = M
theorem top_ex {m : Nat} (hm : 0 < m) {h : Int → Int} (hp : Per m h) : ∃ M, Top m h M := by
  have key : ∀ k : Nat, 0 < k → ∃ z : Int, ∀ j : Nat, j < k → h j ≤ h z := by
    intro k
    induction k with
    | zero => intro h; omega
    | succ k ih =>
      intro _
      by_cases c : k = 0
      · subst c; exact ⟨0, fun j hj => by have : j = 0 := by omega
                                          subst this; exact Int.le_refl _⟩
      · obtain ⟨z, hz⟩ := ih (by omega)
        by_cases c2 : h (k : Int) ≤ h z
        · exact ⟨z, fun j hj => by
            by_cases e : j = k
            · subst e; exact c2
            · exact hz j (by omega)⟩
        · refine ⟨(k : Int), fun j hj => ?_⟩
          by_cases e : j = k
          · subst e; exact Int.le_refl _
          · have := hz j (by omega); omega
  obtain ⟨z, hz⟩ := key m hm
  refine ⟨h z, fun j => ?_, z, rfl⟩
  have h0 := Int.emod_nonneg j (by omega : (m : Int) ≠ 0)
  have h1 := Int.emod_lt_of_pos j (by omega : (0 : Int) < m)
  have := hz (j % m).toNat (by omega)
  rw [Int.toNat_of_nonneg h0, hp.mod] at this
  exact this
def Qm (m : Nat) (h : Int → Int) (M : Int) : Int := Sm m fun j => (M - h j) * (M - h j)
theorem sum_sqs {m : Nat} (hm : 0 < m) {v : Int → Int} (hv : Per m v) : ∀ ws : List Nat, Sm m (fun j => sqs (ws.map fun (w : Nat) => v (j - (w : Int)))) = (ws.length : Int) * Sm m fun j => v j * v j
  | [] => by
    have : Sm m (fun j => sqs (([] : List Nat).map fun (w : Nat) => v (j - (w : Int)))) = Sm m fun _ => 0 := rfl
    rw [this, S_const]
    simp
  | w :: ws => by
    have e : Sm m (fun j => sqs ((w :: ws).map fun (w : Nat) => v (j - (w : Int)))) = Sm m fun j => v (j - (w : Int)) * v (j - (w : Int)) + sqs (ws.map fun (w : Nat) => v (j - (w : Int))) := rfl
    rw [e, S_add, sum_sqs hm hv ws]
    have hq : Per m fun j => v j * v j := fun j => by show v (j + m) * v (j + m) = v j * v j; rw [hv]
    have e2 := S_rot hm hq (-(w : Int))
    have e3 : Sm m (fun j => v (j - (w : Int)) * v (j - (w : Int))) = Sm m fun j => v j * v j := by
      rw [← e2]
      exact S_congr fun j _ => by rw [show (j : Int) + -(w : Int) = j - w by omega]
    rw [e3, List.length_cons]
    grind
/-- one round -/
theorem one_round {m : Nat} {ws : List Nat} {s : Int} {h : Int → Int} (hm : 0 < m) (hg : Hang m ws) (hk : (ws.length : Int) < s) (h9 : s ≤ 9) (hp : Per m h) {M M' : Int} (hM : Top m h M) (hM' : Top m (stepH s ws h) M') :
    M' ≤ M ∧ 669 * Qm m (stepH s ws h) M' ≤ 668 * Qm m h M := by
  have hs : 0 < s := by omega
  have v0 : ∀ i, 0 ≤ M - h i := fun i => by have := hM.1 i; omega
  have X0 : ∀ j, 0 ≤ (s - (ws.length : Int)) * (M - h j) + sumW ws (fun i => M - h i) j := fun j => by
    have a := Int.mul_nonneg (a := s - (ws.length : Int)) (by omega) (v0 j)
    have b := sumW_nn v0 j ws
    omega
  have hle : ∀ j, stepH s ws h j ≤ M := fun j => by
    rw [step_eq (M := M) hs]
    have := Int.ediv_nonneg (X0 j) (by omega : 0 ≤ s)
    omega
  have hMM : M' ≤ M := by
    obtain ⟨z, hz⟩ := hM'.2
    rw [← hz]
    exact hle z
  refine ⟨hMM, ?_⟩
  have hv : Per m fun i => M - h i := fun j => by show M - h (j + m) = M - h j; rw [hp]
  -- each child
  have each : ∀ j : Nat, j < m → s * s * ((M' - stepH s ws h j) * (M' - stepH s ws h j)) ≤ s * ((s - (ws.length : Int)) * ((M - h j) * (M - h j)) + sqs (ws.map fun (w : Nat) => M - h ((j : Int) - (w : Int)))) + (-(s - (ws.length : Int))) * dfs ws (fun i => M - h i) j := by
    intro j _
    have a1 : 0 ≤ M' - stepH s ws h j := by have := hM'.1 (j : Int); omega
    have a2 : M' - stepH s ws h j ≤ ((s - (ws.length : Int)) * (M - h j) + sumW ws (fun i => M - h i) j) / s := by
      have := step_eq (s := s) (M := M) (ws := ws) (h := h) hs (j : Int)
      omega
    generalize hX : (s - (ws.length : Int)) * (M - h j) + sumW ws (fun i => M - h i) j = Xj at *
    have a3 : s * (M' - stepH s ws h j) ≤ Xj := by
      have b1 := Int.mul_le_mul_of_nonneg_left a2 (by omega : 0 ≤ s)
      have b2 := Int.mul_ediv_self_le (x := Xj) (k := s) (by omega)
      omega
    have a4 : 0 ≤ s * (M' - stepH s ws h j) := Int.mul_nonneg (by omega) a1
    have a5 : (s * (M' - stepH s ws h j)) * (s * (M' - stepH s ws h j)) ≤ Xj * Xj := Int.mul_le_mul a3 a3 a4 (by omega)
    have a6 := mixed (s - (ws.length : Int)) s (M - h j) (ws.map fun (w : Nat) => M - h ((j : Int) - (w : Int))) (by rw [List.length_map]; omega)
    have a7 : (s - (ws.length : Int)) * (M - h j) + (ws.map fun (w : Nat) => M - h ((j : Int) - (w : Int))).sum = Xj := hX
    rw [a7] at a6
    have a8 : dfs ws (fun i => M - h i) j = dif (M - h j) (ws.map fun (w : Nat) => M - h ((j : Int) - (w : Int))) := rfl
    rw [a8]
    grind
  have tot := S_le (m := m) (f := fun j => s * s * ((M' - stepH s ws h j) * (M' - stepH s ws h j))) (g := fun j => s * ((s - (ws.length : Int)) * ((M - h j) * (M - h j)) + sqs (ws.map fun (w : Nat) => M - h (j - (w : Int)))) + (-(s - (ws.length : Int))) * dfs ws (fun i => M - h i) j) each
  rw [S_mul, S_add, S_mul, S_mul, S_add, S_mul, sum_sqs hm hv ws] at tot
  have eQ : Sm m (fun j => (M - h j) * (M - h j)) = Qm m h M := rfl
  have eQ' : Sm m (fun j => (M' - stepH s ws h j) * (M' - stepH s ws h j)) = Qm m (stepH s ws h) M' := rfl
  rw [eQ, eQ'] at tot
  -- the ring hangs together
  obtain ⟨z, hz⟩ := hM.2
  have hV : Per m fun j => M - h (j + z) := hv.shift z
  obtain ⟨C, hC, hCs⟩ := hg.sq (fun j => M - h (j + z)) hV (by rw [Int.zero_add, hz, Int.sub_self])
  have r1 : Sm m (fun j => (M - h (j + z)) * (M - h (j + z))) = Qm m h M := by
    have hq : Per m fun j => (M - h j) * (M - h j) := fun j => by show (M - h (j + m)) * (M - h (j + m)) = _; rw [hp]
    exact S_rot hm hq z
  have r2 : Sm m (dfs ws fun j => M - h (j + z)) = Sm m (dfs ws fun i => M - h i) := by
    have := S_rot hm (D_per (ws := ws) hv) z
    rw [← this]
    refine S_congr fun j _ => ?_
    unfold dfs
    congr 1
    refine List.map_congr_left fun w _ => ?_
    show M - h ((j : Int) - (w : Int) + z) = M - h ((j : Int) + z - w)
    rw [show (j : Int) - (w : Int) + z = j + z - w by omega]
  rw [r1, r2] at hC
  have hb := hCs s.toNat (by omega) (by omega)
  have hb2 : s * s * (C : Int) ≤ 669 * (s - (ws.length : Int)) := by
    have : ((s.toNat * s.toNat * C : Nat) : Int) ≤ ((669 * (s.toNat - ws.length) : Nat) : Int) := by exact_mod_cast hb
    have e1 : ((s.toNat * s.toNat * C : Nat) : Int) = s * s * (C : Int) := by
      rw [Int.natCast_mul, Int.natCast_mul, Int.toNat_of_nonneg (by omega)]
    have e2 : ((669 * (s.toNat - ws.length) : Nat) : Int) = 669 * (s - (ws.length : Int)) := by omega
    omega
  have G0 : 0 ≤ Sm m (dfs ws fun i => M - h i) := by
    have e := S_le (m := m) (f := fun _ => 0) (g := dfs ws fun i => M - h i) fun j _ => D_nn _ _ _
    rw [S_const] at e
    simpa using e
  generalize Sm m (dfs ws fun i => M - h i) = G at *
  generalize Qm m h M = q at *
  generalize Qm m (stepH s ws h) M' = q' at *
  generalize hkap : s - (ws.length : Int) = κ at *
  have k1 : 1 ≤ κ := by omega
  have c1 : s * s * q ≤ 669 * κ * G := by
    have d1 : s * s * q ≤ s * s * (C * G) := Int.mul_le_mul_of_nonneg_left hC (sqn s)
    have d2 : s * s * C * G ≤ 669 * κ * G := Int.mul_le_mul_of_nonneg_right hb2 G0
    grind
  have c2 : s * s * q' ≤ s * s * q - κ * G := by
    have : (ws.length : Int) = s - κ := by omega
    rw [this] at tot
    grind
  have c3 : s * s * (669 * q') ≤ s * s * (668 * q) := by grind
  have c4 : 0 < s * s := Int.mul_pos hs hs
  exact Int.le_of_mul_le_mul_left c3 c4

theorem Q_nn (m : Nat) (h : Int → Int) (M : Int) : 0 ≤ Qm m h M := by
  have e := S_le (m := m) (f := fun _ => 0) (g := fun j => (M - h j) * (M - h j)) fun j _ => sqn _
  rw [S_const] at e
  simpa [Qm] using e
theorem many_rounds {m : Nat} {ws : List Nat} {s : Int} {h : Int → Int} (hm : 0 < m) (hg : Hang m ws) (hk : (ws.length : Int) < s) (h9 : s ≤ 9) (hp : Per m h) {M : Int} (hM : Top m h M) :
    ∀ (t : Nat) {M' : Int}, Top m (itH s ws h t) M' → M' ≤ M ∧ ((669 : Nat) : Int) ^ t * Qm m (itH s ws h t) M' ≤ ((668 : Nat) : Int) ^ t * Qm m h M
  | 0, M', hM' => by
    have : M' = M := by
      obtain ⟨z, hz⟩ := hM'.2
      obtain ⟨y, hy⟩ := hM.2
      have h1 := hM.1 z
      have h2 := hM'.1 y
      have e : itH s ws h 0 = h := rfl
      rw [e] at hz h2
      omega
    subst this
    refine ⟨Int.le_refl _, ?_⟩
    show ((669 : Nat) : Int) ^ 0 * Qm m h M' ≤ _
    rw [Int.pow_zero, Int.pow_zero]
    exact Int.le_refl _
  | t + 1, M', hM' => by
    obtain ⟨M1, hM1⟩ := top_ex hm (itH_per (s := s) (ws := ws) hp t)
    obtain ⟨i1, i2⟩ := many_rounds hm hg hk h9 hp hM t hM1
    obtain ⟨j1, j2⟩ := one_round hm hg hk h9 (itH_per hp t) hM1 hM'
    refine ⟨by omega, ?_⟩
    have e : itH s ws h (t + 1) = stepH s ws (itH s ws h t) := rfl
    rw [e]
    generalize Qm m (stepH s ws (itH s ws h t)) M' = q2 at *
    generalize Qm m (itH s ws h t) M1 = q1 at *
    generalize Qm m h M = q0 at *
    have p1 : (0 : Int) ≤ ((669 : Nat) : Int) ^ t := Int.pow_nonneg (by decide)
    rw [Int.pow_succ, Int.pow_succ]
    generalize ((669 : Nat) : Int) ^ t = P at *
    generalize ((668 : Nat) : Int) ^ t = R at *
    have p2 := Int.mul_le_mul_of_nonneg_left j2 p1
    have e9 : ((669 : Nat) : Int) = 669 := rfl
    have e8 : ((668 : Nat) : Int) = 668 := rfl
    rw [e9, e8]
    grind
theorem pow_lt_int (a b N c : Nat) (h : a ^ N * c < b ^ N) : (a : Int) ^ N * (c : Int) < (b : Int) ^ N := by exact_mod_cast h
theorem big : (668 : Nat) ^ 19990 * (12 * (500001 * 500001)) < 669 ^ 19990 := by decide +kernel
/-- a ring is all alike behind 19990 rounds -/
theorem ring_alike {m : Nat} {ws : List Nat} {s : Int} {h : Int → Int} (hm : 0 < m) (hm12 : m ≤ 12) (hg : Hang m ws) (hk : (ws.length : Int) < s) (h9 : s ≤ 9) (hp : Per m h) (h0 : ∀ j, 0 ≤ h j ∧ h j ≤ 500001) (i j : Int) : itH s ws h 19990 i = itH s ws h 19990 j := by
  obtain ⟨M, hM⟩ := top_ex hm hp
  obtain ⟨M', hM'⟩ := top_ex hm (itH_per (s := s) (ws := ws) hp 19990)
  obtain ⟨_, h2⟩ := many_rounds hm hg hk h9 hp hM 19990 hM'
  have hQ : Qm m h M ≤ 12 * (500001 * 500001) := by
    have hb : M ≤ 500001 := by obtain ⟨z, hz⟩ := hM.2; have := h0 z; omega
    have e := S_le (m := m) (f := fun j => (M - h j) * (M - h j)) (g := fun _ => 500001 * 500001) fun j _ => by
      have a := hM.1 (j : Int)
      have b := h0 (j : Int)
      exact Int.mul_le_mul (by omega) (by omega) (by omega) (by omega)
    rw [S_const] at e
    have e2 : (m : Int) * (500001 * 500001) ≤ 12 * (500001 * 500001) := by omega
    exact Int.le_trans e e2
  have q0 := Q_nn m (itH s ws h 19990) M'
  have hz : Qm m (itH s ws h 19990) M' ≤ 0 := by
    refine Int.not_lt.mp fun hpos => ?_
    have b1 := pow_lt_int _ _ _ _ big
    have p0 : (0 : Int) ≤ ((668 : Nat) : Int) ^ 19990 := Int.pow_nonneg (by decide)
    have pB : (0 : Int) ≤ ((669 : Nat) : Int) ^ 19990 := Int.pow_nonneg (by decide)
    generalize ((668 : Nat) : Int) ^ 19990 = A at *
    generalize ((669 : Nat) : Int) ^ 19990 = B at *
    have c1 : A * Qm m h M ≤ A * (12 * (500001 * 500001)) := Int.mul_le_mul_of_nonneg_left hQ p0
    have c2 : ((12 * (500001 * 500001) : Nat) : Int) = 12 * (500001 * 500001) := rfl
    rw [c2] at b1
    generalize A * Qm m h M = x at *
    generalize A * (12 * (500001 * 500001)) = y at *
    generalize Qm m (itH s ws h 19990) M' = z at *
    have c3 : B * 1 ≤ B * z := Int.mul_le_mul_of_nonneg_left (by omega) (by omega)
    omega
  have all : ∀ j : Nat, j < m → M' = itH s ws h 19990 j := fun j hj => by
    have e := S_zero (f := fun j => (M' - itH s ws h 19990 j) * (M' - itH s ws h 19990 j)) (fun j => sqn _) hz j hj
    have : M' - itH s ws h 19990 j = 0 := by rcases Int.mul_eq_zero.mp e with q | q <;> exact q
    omega
  have allI : ∀ j : Int, itH s ws h 19990 j = M' := fun j => by
    have g0 := Int.emod_nonneg j (by omega : (m : Int) ≠ 0)
    have g1 := Int.emod_lt_of_pos j (by omega : (0 : Int) < m)
    have := all (j % m).toNat (by omega)
    rw [Int.toNat_of_nonneg g0, (itH_per hp 19990).mod] at this
    exact this.symm
  rw [allI, allI]
end Sw

namespace Sw
open PySem PySem.Spec PyProof.Rows L2 PD
local macro_rules | `(tactic| walk_at "ev") => `(tactic| simp only [sSeq, sAsg, sRet, sRetN, sIf, sDrop, sNx, sPar, sPar3, gN, gT, gsCons, gsNil, dV, dC, dI, dOp, dUn, dCh, dB, dAnd, dOr, dNot, dAndV, dOrV, dNotV, dIf, dNil, dCons, dTup, dLst, dCB, dCall, dSetLen, sTry, hdlD, dkRun, dkCls, dI0, dI2, rdLen, rdIsi, rdIsiT, rdIx, dGet_eq, rdGet_size, rdGet_share, rdGet_ways,
  sFor_eq, dLc_eq, iTp, iLs, iSc, iR1, iR2, iEnT, iEnL, iEnS, wipeD_nil, wipeD_cons, sOpen, dShut, sBrk, sCnt, sNever, dNeg, dPart, dNoPart, dSl, sAug, sSetL, dApp, dPopAt, dNewL, dNewCat, dToRng, sPut, dMake, finG, sRaise0, sRaise1, sFrz, dNewRep, dNewList, dPop, dStar, dUn,
  rdEq_i, rdNe_i, sI_2, ixN_0, ixN_1, Cell.lst.injEq, rdInt_i, rdInt_b, rdAbs_i, rdMax2_i, eqD_int, eqOk_int, cellD_int, eqD_bl, eqOk_bl, cellD_bl, eqOk_non, seqOf_lst, seqOf_tup, lstOf_lst, atD_0, atD_1, atD_2, List.set_set, cellD_lst, cellD_tup, iL_cons, iL_nil, iL_len,
  startD, bodyN, List.map_cons, List.map_nil, List.length_cons, List.length_nil, List.replicate_succ, List.replicate_zero, List.cons_append, List.nil_append, List.append_nil, List.getElem?_cons_zero, List.getElem?_cons_succ, List.set_cons_zero, List.set_cons_succ, Nat.reduceSub, Nat.reduceAdd, Nat.zero_add,
  Option.some.injEq, exists_eq_left', exists_eq_left, D.int.injEq, D.bl.injEq, D.lst.injEq, D.tup.injEq, D.str.injEq, D.ptr.injEq, D.scr.injEq, D.gm.injEq, List.cons.injEq, and_true, true_and, exists_and_left, exists_and_right, D.ty.injEq, and_assoc, ↓reduceIte, eq_self, Bool.not_true, Bool.not_false, Bool.false_eq_true, decide_true, decide_false])
/-! SwN: a game's rows come to an end within 19991 rounds. -/
theorem fold_great {k : Nat} : ∀ (ws : List Int) (a : Nat), k ∣ a → (∀ w ∈ ws, k ∣ w.toNat) → k ∣ ws.foldl (fun a w => Nat.gcd a w.toNat) a
  | [], a, h, _ => h
  | v :: ws, a, h, hw => fold_great ws _ (Nat.dvd_gcd h (hw v List.mem_cons_self)) fun w hw' => hw w (List.mem_cons_of_mem _ hw')
theorem gcdL_dvd {m : Nat} : ∀ r : List Nat, gcdL m r ∣ m ∧ ∀ w ∈ r, gcdL m r ∣ w
  | [] => ⟨Nat.dvd_refl m, fun w h => by cases h⟩
  | v :: r => by
    have e : gcdL m (v :: r) = Nat.gcd v (gcdL m r) := rfl
    obtain ⟨h1, h2⟩ := gcdL_dvd (m := m) r
    rw [e]
    refine ⟨Nat.dvd_trans (Nat.gcd_dvd_right ..) h1, fun w hw => ?_⟩
    rcases List.mem_cons.mp hw with rfl | hw
    · exact Nat.gcd_dvd_left ..
    · exact Nat.dvd_trans (Nat.gcd_dvd_right ..) (h2 w hw)
theorem hang_rev {m : Nat} {ws : List Nat} (h : Hang m ws.reverse) : Hang m ws := by
  refine ⟨fun V hV h0 => ?_⟩
  obtain ⟨C, h1, h2⟩ := h.sq V hV h0
  refine ⟨C, ?_, by rw [List.length_reverse] at h2; exact h2⟩
  have e : dfs ws.reverse V = dfs ws V := by
    funext j
    unfold dfs dif
    rw [List.map_reverse, List.map_reverse]
    exact perm_sum (List.reverse_perm _)
  rw [e] at h1
  exact h1
theorem asc_pw : ∀ {l : List Int}, (∀ (i : Nat) (a b : Int), l[i]? = some a → l[i + 1]? = some b → a < b) → l.Pairwise (· < ·)
  | [], _ => .nil
  | x :: l, h => by
    have ih := asc_pw (l := l) fun i a b ha hb => h (i + 1) a b (by simpa using ha) (by simpa using hb)
    refine List.pairwise_cons.mpr ⟨fun y hy => ?_, ih⟩
    cases l with
    | nil => cases hy
    | cons z l =>
      have h1 := h 0 x z rfl rfl
      rcases List.mem_cons.mp hy with rfl | hy
      · exact h1
      · have := (List.pairwise_cons.mp ih).1 y hy
        omega
section
variable {n s : Int} {ws l : List Int}
def wsd (n : Int) (ws : List Int) : List Nat := ws.map fun w => (w / ((gW n ws : Nat) : Int)).toNat
def mR (n : Int) (ws : List Int) : Nat := (n / ((gW n ws : Nat) : Int)).toNat
theorem mR_eq (ok : GOk n s ws) : ((gW n ws : Nat) : Int) * ((mR n ws : Nat) : Int) = n ∧ 0 < mR n ws ∧ mR n ws ≤ n.toNat := by
  obtain ⟨g1, g2, g3, g4⟩ := gW_dvd ok
  have h2 := ok.n2
  have e := Int.mul_ediv_cancel' g1
  have h0 : 0 ≤ n / ((gW n ws : Nat) : Int) := Int.ediv_nonneg (by omega) (by omega)
  have e2 : ((mR n ws : Nat) : Int) = n / ((gW n ws : Nat) : Int) := Int.toNat_of_nonneg h0
  rw [e2]
  refine ⟨e, ?_, ?_⟩
  · have h1 : 0 < n / ((gW n ws : Nat) : Int) := by
      rcases Int.lt_or_le 0 (n / ((gW n ws : Nat) : Int)) with h | h
      · exact h
      · have : n / ((gW n ws : Nat) : Int) = 0 := by omega
        rw [this] at e
        omega
    omega
  · have : n / ((gW n ws : Nat) : Int) ≤ n := Int.ediv_le_self _ (by omega)
    omega
theorem wd_eq (ok : GOk n s ws) {w : Int} (hw : w ∈ ws) : ((gW n ws : Nat) : Int) * (((w / ((gW n ws : Nat) : Int)).toNat : Nat) : Int) = w := by
  obtain ⟨g1, g2, g3, g4⟩ := gW_dvd ok
  have hw1 := ok.w w hw
  have h0 : 0 ≤ w / ((gW n ws : Nat) : Int) := Int.ediv_nonneg (by omega) (by omega)
  rw [Int.toNat_of_nonneg h0]
  exact Int.mul_ediv_cancel' (g2 w hw)
theorem hang_game (ok : GOk n s ws) (hA : allAsc (mR n ws) (mR n ws - 1) 1 [] = true) : Hang (mR n ws) (wsd n ws) := by
  obtain ⟨g1, g2, g3, g4⟩ := gW_dvd ok
  obtain ⟨m1, m2, m3⟩ := mR_eq ok
  have hn := ok.n2
  have hd : (0 : Int) < ((gW n ws : Nat) : Int) := by omega
  have bnd : ∀ x ∈ wsd n ws, 1 ≤ x ∧ x < 1 + (mR n ws - 1) := fun x hx => by
    obtain ⟨w, hw, rfl⟩ := List.mem_map.mp hx
    have e := wd_eq ok hw
    have hw1 := ok.w w hw
    generalize (w / ((gW n ws : Nat) : Int)).toNat = y at *
    have y1 : 0 < y := by
      rcases Nat.eq_zero_or_pos y with h | h
      · subst h; simp at e; omega
      · exact h
    have y2 : (y : Int) < (mR n ws : Int) := by
      refine Int.lt_of_mul_lt_mul_left (a := ((gW n ws : Nat) : Int)) ?_ (by omega)
      omega
    omega
  have pw : (wsd n ws).Pairwise (· < ·) := by
    unfold wsd
    refine List.pairwise_map.mpr ?_
    have h := asc_pw ok.up
    refine List.Pairwise.imp_of_mem (R := (· < ·)) (fun {a b} ha hb hab => ?_) h
    have ea := wd_eq ok ha
    have eb := wd_eq ok hb
    have : (((a / ((gW n ws : Nat) : Int)).toNat : Nat) : Int) < (((b / ((gW n ws : Nat) : Int)).toNat : Nat) : Int) := by
      refine Int.lt_of_mul_lt_mul_left (a := ((gW n ws : Nat) : Int)) ?_ (by omega)
      omega
    omega
  have hc := allAsc_ok _ _ _ hA (wsd n ws) bnd pw
  rw [List.append_nil] at hc
  refine hang_rev (hang_of m2 hc ?_)
  obtain ⟨d1, d2⟩ := gcdL_dvd (m := mR n ws) (wsd n ws).reverse
  generalize hg : gcdL (mR n ws) (wsd n ws).reverse = g at *
  have k1 : gW n ws * g ∣ n.toNat := by
    have e : n.toNat = gW n ws * mR n ws := by
      have : ((n.toNat : Nat) : Int) = ((gW n ws * mR n ws : Nat) : Int) := by rw [Int.natCast_mul, m1]; omega
      omega
    rw [e]
    exact Nat.mul_dvd_mul_left _ d1
  have k2 : ∀ w ∈ ws, gW n ws * g ∣ w.toNat := fun w hw => by
    have e0 := wd_eq ok hw
    have hw1 := ok.w w hw
    have e : w.toNat = gW n ws * (w / ((gW n ws : Nat) : Int)).toNat := by
      have : ((w.toNat : Nat) : Int) = ((gW n ws * (w / ((gW n ws : Nat) : Int)).toNat : Nat) : Int) := by rw [Int.natCast_mul, e0]; omega
      omega
    rw [e]
    exact Nat.mul_dvd_mul_left _ (d2 _ (List.mem_reverse.mpr (List.mem_map.mpr ⟨w, hw, rfl⟩)))
  have k3 : gW n ws * g ∣ gW n ws := fold_great ws _ k1 k2
  have k4 := Nat.le_of_dvd g3 k3
  have k5 : 0 < gW n ws * g := Nat.pos_of_dvd_of_pos k3 g3
  have k6 : g ≠ 0 := fun h => by rw [h] at k5; omega
  rcases Nat.lt_or_ge g 2 with h | h
  · omega
  · have : gW n ws * 2 ≤ gW n ws * g := Nat.mul_le_mul_left _ h
    omega
theorem un_step (ok : GOk n s ws) (hl : (l.length : Int) = n) {x : Int} (h0 : 0 ≤ x) (h1 : x < n) : un s (passL n s ws l) x = ((s - (ws.length : Int)) * un s l x + (ws.map fun w => un s l ((x - w) % n)).sum + s - 1) / s := by
  obtain ⟨a, b⟩ := un_next ok hl h0 h1
  have hs := ok.s2
  generalize (s - (ws.length : Int)) * un s l x + (ws.map fun w => un s l ((x - w) % n)).sum = X at *
  generalize un s (passL n s ws l) x = u at *
  rw [Int.mul_sub] at a
  have e : X + s - 1 = (X - s * u + s - 1) + u * s := by rw [Int.mul_comm]; omega
  rw [e, Int.add_mul_ediv_right _ _ (by omega), Int.ediv_eq_zero_of_lt (by omega) (by omega), Int.zero_add]
/-- the numbers of a ring, by turns -/
def rH (n s : Int) (ws l : List Int) (f : Nat) : Int → Int := fun j => un s l (((f : Int) + ((gW n ws : Nat) : Int) * j) % n)
theorem rH_per (ok : GOk n s ws) (f : Nat) : Per (mR n ws) (rH n s ws l f) := fun j => by
  obtain ⟨m1, m2, m3⟩ := mR_eq ok
  unfold rH
  congr 1
  rw [Int.mul_add, m1, ← Int.add_assoc, Int.add_emod_right]
theorem rH_step (ok : GOk n s ws) (hl : (l.length : Int) = n) (f : Nat) : rH n s ws (passL n s ws l) f = stepH s (wsd n ws) (rH n s ws l f) := by
  have hn := ok.n2
  funext j
  have h0 := Int.emod_nonneg ((f : Int) + ((gW n ws : Nat) : Int) * j) (by omega : n ≠ 0)
  have h1 := Int.emod_lt_of_pos ((f : Int) + ((gW n ws : Nat) : Int) * j) (by omega : 0 < n)
  have e := un_step ok hl h0 h1
  unfold stepH sumW
  show un s (passL n s ws l) (((f : Int) + ((gW n ws : Nat) : Int) * j) % n) = _
  rw [e]
  have e1 : (wsd n ws).length = ws.length := by unfold wsd; rw [List.length_map]
  have e2 : (List.map (fun (w : Nat) => rH n s ws l f (j - (w : Int))) (wsd n ws)) = ws.map fun w => un s l ((((f : Int) + ((gW n ws : Nat) : Int) * j) % n - w) % n) := by
    unfold wsd
    rw [List.map_map]
    refine List.map_congr_left fun w hw => ?_
    have ew := wd_eq ok hw
    show un s l (((f : Int) + ((gW n ws : Nat) : Int) * (j - (((w / ((gW n ws : Nat) : Int)).toNat : Nat) : Int))) % n) = _
    congr 1
    rw [Int.mul_sub, ew, Int.emod_sub_emod]
    congr 1
    omega
  rw [e1, e2]
  rfl
theorem rH_it (ok : GOk n s ws) (hl : (l.length : Int) = n) (f : Nat) : ∀ t, rH n s ws (itP n s ws l t) f = itH s (wsd n ws) (rH n s ws l f) t
  | 0 => rfl
  | t + 1 => by
    show rH n s ws (passL n s ws (itP n s ws l t)) f = stepH s (wsd n ws) (itH s (wsd n ws) (rH n s ws l f) t)
    rw [rH_step ok (itP_len hl t), rH_it ok hl f t]
/-- numbers up to a million: still behind 19991 rounds -/
theorem fast_end (ok : GOk n s ws) (hl : (l.length : Int) = n) (hA : allAsc (mR n ws) (mR n ws - 1) 1 [] = true) (hb : ∀ x ∈ l, 0 ≤ x ∧ x ≤ 1000000) : itP n s ws l (19991 + 1) = itP n s ws l 19991 := by
  have hn := ok.n2
  have hn12 := ok.n12
  have hs := ok.s2
  have hls := ok.ls
  obtain ⟨g1, g2, g3, g4⟩ := gW_dvd ok
  obtain ⟨m1, m2, m3⟩ := mR_eq ok
  have hu : ∀ x, 0 ≤ un s l x ∧ un s l x ≤ 500001 := fun x => by
    have hv : 0 ≤ vl l x ∧ vl l x ≤ 1000000 := by
      unfold vl
      rw [List.getD_eq_getElem?_getD]
      cases e : l[x.toNat]? with
      | none => exact ⟨by decide, by decide⟩
      | some v => exact hb v (List.mem_of_getElem? e)
    have e := un_eq hs l x
    obtain ⟨f1, f2⟩ := fill_ge hs (vl l x)
    rw [← e] at f1 f2
    generalize un s l x = u at *
    have c1 : 0 ≤ u := by
      rcases Int.lt_or_le u 0 with h | h
      · have : u * s ≤ (-1) * s := Int.mul_le_mul_of_nonneg_right (by omega) (by omega)
        omega
      · exact h
    have c2 : (u - 1) * s < 1000000 := by rw [Int.sub_mul]; omega
    have c3 : (u - 1) * 2 ≤ (u - 1) * s ∨ u < 1 := by
      rcases Int.lt_or_le u 1 with h | h
      · exact .inr h
      · exact .inl (Int.mul_le_mul_of_nonneg_left hs (by omega))
    omega
  have hcst : ∀ f, f < gW n ws → Cst n s ws (itP n s ws l 19990) f := fun f hf x y hx hy => by
    have hwl : ((wsd n ws).length : Int) < s := by unfold wsd; rw [List.length_map]; exact hls
    have al := ring_alike m2 (by omega) (hang_game ok hA) hwl ok.s9 (rH_per (l := l) ok f) (fun j => hu _)
    have at_ : ∀ z, z ∈ rgs n ws f → un s (itP n s ws l 19990) z = itH s (wsd n ws) (rH n s ws l f) 19990 (z / ((gW n ws : Nat) : Int)) := fun z hz => by
      obtain ⟨z0, z1, z2⟩ := mem_rgs.mp hz
      rw [← rH_it ok hl f 19990]
      unfold rH
      congr 1
      have e := Int.emod_add_mul_ediv z ((gW n ws : Nat) : Int)
      rw [← z2, e, Int.emod_eq_of_lt z0 z1]
    rw [at_ x hx, at_ y hy]
    exact al _ _
  exact cst_still ok (itP_len hl 19990) hcst
end
end Sw

namespace Sw
open PySem PySem.Spec PyProof.Rows L2 PD
local macro_rules | `(tactic| walk_at "ev") => `(tactic| simp only [sSeq, sAsg, sRet, sRetN, sIf, sDrop, sNx, sPar, sPar3, gN, gT, gsCons, gsNil, dV, dC, dI, dOp, dUn, dCh, dB, dAnd, dOr, dNot, dAndV, dOrV, dNotV, dIf, dNil, dCons, dTup, dLst, dCB, dCall, dSetLen, sTry, hdlD, dkRun, dkCls, dI0, dI2, rdLen, rdIsi, rdIsiT, rdIx, dGet_eq, rdGet_size, rdGet_share, rdGet_ways,
  sFor_eq, dLc_eq, iTp, iLs, iSc, iR1, iR2, iEnT, iEnL, iEnS, wipeD_nil, wipeD_cons, sOpen, dShut, sBrk, sCnt, sNever, dNeg, dPart, dNoPart, dSl, sAug, sSetL, dApp, dPopAt, dNewL, dNewCat, dToRng, sPut, dMake, finG, sRaise0, sRaise1, sFrz, dNewRep, dNewList, dPop, dStar, dUn,
  rdEq_i, rdNe_i, sI_2, ixN_0, ixN_1, Cell.lst.injEq, rdInt_i, rdInt_b, rdAbs_i, rdMax2_i, eqD_int, eqOk_int, cellD_int, eqD_bl, eqOk_bl, cellD_bl, eqOk_non, seqOf_lst, seqOf_tup, lstOf_lst, atD_0, atD_1, atD_2, List.set_set, cellD_lst, cellD_tup, iL_cons, iL_nil, iL_len,
  startD, bodyN, List.map_cons, List.map_nil, List.length_cons, List.length_nil, List.replicate_succ, List.replicate_zero, List.cons_append, List.nil_append, List.append_nil, List.getElem?_cons_zero, List.getElem?_cons_succ, List.set_cons_zero, List.set_cons_succ, Nat.reduceSub, Nat.reduceAdd, Nat.zero_add,
  Option.some.injEq, exists_eq_left', exists_eq_left, D.int.injEq, D.bl.injEq, D.lst.injEq, D.tup.injEq, D.str.injEq, D.ptr.injEq, D.scr.injEq, D.gm.injEq, List.cons.injEq, and_true, true_and, exists_and_left, exists_and_right, D.ty.injEq, and_assoc, ↓reduceIte, eq_self, Bool.not_true, Bool.not_false, Bool.false_eq_true, decide_true, decide_false])
/-! SwF: the law's rows up to the end. -/
def rowsT (n s : Int) (ws l : List Int) (T : Nat) : List D := (List.range (T + 1)).map fun t => .tup (iL (itP n s ws l t))
theorem rowsT_len (n s : Int) (ws l : List Int) (T : Nat) : (rowsT n s ws l T).length = T + 1 := by unfold rowsT; rw [List.length_map, List.length_range]
theorem rowsT_get {n s : Int} {ws l : List Int} {T t : Nat} (h : t ≤ T) : (rowsT n s ws l T)[t]? = some (.tup (iL (itP n s ws l t))) := by
  unfold rowsT
  rw [List.getElem?_map, List.getElem?_range (by omega)]
  rfl
theorem rowsT_succ (n s : Int) (ws l : List Int) (T : Nat) : rowsT n s ws l (T + 1) = rowsT n s ws l T ++ [.tup (iL (itP n s ws l (T + 1)))] := by
  unfold rowsT
  rw [List.range_succ, List.map_append]
  rfl
theorem rowsT_cln (n s : Int) (ws l : List Int) (T : Nat) : ∀ d ∈ rowsT n s ws l T, Cln d := fun d hd => by
  obtain ⟨t, _, rfl⟩ := List.mem_map.mp hd
  exact cln_tL _
theorem atD_last {xs : List D} {x : D} (h : xs[xs.length - 1]? = some x) : atD xs (-1) = some x := by
  have hl : xs.length - 1 < xs.length := (List.getElem?_eq_some_iff.mp h).1
  unfold atD ixN
  rw [if_neg (by decide), if_pos (by omega)]
  show xs[((-1 : Int) + xs.length).toNat]? = _
  rw [show ((-1 : Int) + xs.length).toNat = xs.length - 1 by omega]
  exact h
theorem rowsT_last (n s : Int) (ws l : List Int) (T : Nat) : atD (rowsT n s ws l T) (-1) = some (.tup (iL (itP n s ws l T))) := atD_last (by rw [rowsT_len, Nat.add_sub_cancel]; exact rowsT_get (Nat.le_refl _))
abbrev sp_law_rows : DSp := fun xs M X k => ∃ n s ws l N, xs = [.gm n s ws, .tup (iL l)] ∧ GOk n s ws ∧ (l.length : Int) = n ∧ N ≤ 19999 ∧ itP n s ws l (N + 1) = itP n s ws l N ∧ (∀ c ∈ M, ClnC c) ∧
  ∀ T, T ≤ N → itP n s ws l (T + 1) = itP n s ws l T → (∀ t, t < T → itP n s ws l (t + 1) ≠ itP n s ws l t) → k (.lst (rowsT n s ws l T)) M
abbrev d_law_rows : DS := (sSeq (sAsg (dNewL (dCons (dV 1) dNil)) (gN 2)) (sSeq (sFor (iR1 (dCons (dI 20000) dNil)) (gN 3) (sSeq (sAsg (dCall sp_law_round [] (dCons (dV 0) (dCons (dOp rdIx (dV 2) (dNeg (dI 1))) dNil))) (gN 4)) (sSeq (sIf (dB (dOp rdEq (dV 4) (dOp rdIx (dV 2) (dNeg (dI 1))))) (sFrz 2 (sRet (dV 2))) sNx) (sDrop (dApp (dV 2) (dV 4)))))) (sFrz 2 (sRet (dV 2)))))
--  5 ['_law_game_here', '_law_sweets_here', '_law_found', '_law_lap', '_law_later']
theorem pure_law_rows : ∀ ys M X P, sp_law_rows ys M X P → d_law_rows (startD 5 ys) M (bodyN M.length X P) := by
  rintro ys M X P ⟨n, s, ws, l, N, rfl, ok, hl, hN, hfix, hM, q⟩
  unfold d_law_rows
  walk_at "ev"
  refine ⟨by decide, by decide, by decide, ?_⟩
  refine for_inv (fun i g M' => M' = M ++ [.lst (rowsT n s ws l i)] ∧ (∃ a b, g = [some (.gm n s ws), some (.tup (iL l)), some (.ptr M.length), a, b]) ∧ ∀ t, t < i → itP n s ws l (t + 1) ≠ itP n s ws l t) ⟨rfl, ⟨_, _, rfl⟩, fun t ht => by omega⟩ ?_ ?_
  · rintro i y g1 M1 e ⟨rfl, ⟨a, b, rfl⟩, hlt⟩
    obtain ⟨hi, rfl⟩ := rng_get _ _ _ e
    have hi2 : i < 20000 := hi
    try walk_at "ev"
    refine ⟨_, seqOf_ptr last_get, _, rowsT_last n s ws l i, ?_⟩
    have hM1 : ∀ c ∈ M ++ [Cell.lst (rowsT n s ws l i)], ClnC c := clnC_app hM (rowsT_cln n s ws l i)
    refine ⟨n, s, ws, _, rfl, ok, itP_len hl i, hM1, ?_⟩
    try walk_at "ev"
    refine ⟨_, seqOf_ptr last_get, _, rowsT_last n s ws l i, rdEq_t _ _ _ _ ?_⟩
    by_cases hT : itP n s ws l (i + 1) = itP n s ws l i
    · refine ⟨true, congrArg D.bl (decide_eq_true hT), ?_⟩
      rw [if_pos rfl]
      refine ⟨_, last_get, ?_⟩
      rw [last_set]
      have hiN : i ≤ N := by
        rcases Nat.lt_or_ge N i with h | h
        · exact absurd hfix (hlt N h)
        · exact h
      exact .drop rfl (Nat.le_refl _) hM (.lst (rowsT_cln n s ws l i)) (q i hiN hT hlt)
    · refine ⟨false, congrArg D.bl (decide_eq_false hT), ?_⟩
      rw [if_neg (by decide)]
      refine ⟨⟨_, last_get⟩, _, last_get, by rw [rowsT_len, sizeLine_val]; omega, ?_, ⟨_, rfl⟩, fun t ht => ?_⟩
      · rw [last_set, rowsT_succ]; rfl
      · rcases Nat.lt_or_ge t i with h | h
        · exact hlt t h
        · have : t = i := by omega
          subst this
          exact hT
  · rintro g1 M1 ⟨rfl, ⟨a, b, rfl⟩, hlt⟩
    exfalso
    rw [rng_len] at hlt
    exact hlt N (by omega) hfix
end Sw

namespace Sw
open PySem PySem.Spec PyProof.Rows L2 PD
local macro_rules | `(tactic| walk_at "ev") => `(tactic| simp only [sSeq, sAsg, sRet, sRetN, sIf, sDrop, sNx, sPar, sPar3, gN, gT, gsCons, gsNil, dV, dC, dI, dOp, dUn, dCh, dB, dAnd, dOr, dNot, dAndV, dOrV, dNotV, dIf, dNil, dCons, dTup, dLst, dCB, dCall, dSetLen, sTry, hdlD, dkRun, dkCls, dI0, dI2, rdLen, rdIsi, rdIsiT, rdIx, dGet_eq, rdGet_size, rdGet_share, rdGet_ways,
  sFor_eq, dLc_eq, iTp, iLs, iSc, iR1, iR2, iEnT, iEnL, iEnS, wipeD_nil, wipeD_cons, sOpen, dShut, sBrk, sCnt, sNever, dNeg, dPart, dNoPart, dSl, sAug, sSetL, dApp, dPopAt, dNewL, dNewCat, dToRng, sPut, dMake, finG, sRaise0, sRaise1, sFrz, dNewRep, dNewList, dPop, dStar, dUn,
  rdEq_i, rdNe_i, sI_2, ixN_0, ixN_1, Cell.lst.injEq, rdInt_i, rdInt_b, rdAbs_i, rdMax2_i, eqD_int, eqOk_int, cellD_int, eqD_bl, eqOk_bl, cellD_bl, eqOk_non, seqOf_lst, seqOf_tup, lstOf_lst, atD_0, atD_1, atD_2, List.set_set, cellD_lst, cellD_tup, iL_cons, iL_nil, iL_len,
  startD, bodyN, List.map_cons, List.map_nil, List.length_cons, List.length_nil, List.replicate_succ, List.replicate_zero, List.cons_append, List.nil_append, List.append_nil, List.getElem?_cons_zero, List.getElem?_cons_succ, List.set_cons_zero, List.set_cons_succ, Nat.reduceSub, Nat.reduceAdd, Nat.zero_add,
  Option.some.injEq, exists_eq_left', exists_eq_left, D.int.injEq, D.bl.injEq, D.lst.injEq, D.tup.injEq, D.str.injEq, D.ptr.injEq, D.scr.injEq, D.gm.injEq, List.cons.injEq, and_true, true_and, exists_and_left, exists_and_right, D.ty.injEq, and_assoc, ↓reduceIte, eq_self, Bool.not_true, Bool.not_false, Bool.false_eq_true, decide_true, decide_false])
/-! SwL: all_rows. -/
abbrev sp_all_rows : DSp := fun xs M X k => ∃ n s ws l N, xs = [.gm n s ws, .tup (iL l)] ∧ GOk n s ws ∧ (l.length : Int) = n ∧ N ≤ 1000000 ∧ itP n s ws l (N + 1) = itP n s ws l N ∧ (∀ c ∈ M, ClnC c) ∧
  ∀ T, T ≤ N → itP n s ws l (T + 1) = itP n s ws l T → (∀ t, t < T → itP n s ws l (t + 1) ≠ itP n s ws l t) → k (.lst (rowsT n s ws l T)) M
abbrev d_all_rows : DS := (sSeq (sPar 2 3 (dCons (dNewL (dCons (dV 1) dNil)) (dCons (dCall sp_passed [] (dCons (dV 0) (dCons (dV 1) dNil))) dNil))) (sSeq (sWhile (dB (dOp rdNe (dV 3) (dOp rdIx (dV 2) (dNeg (dI 1))))) (sSeq (sDrop (dApp (dV 2) (dV 3))) (sAsg (dCall sp_passed [] (dCons (dV 0) (dCons (dV 3) dNil))) (gN 3)))) (sFrz 2 (sRet (dV 2)))))
--  4 ['game', 'sweets', 'found', 'later']
theorem pure_all_rows : ∀ ys M X P, sp_all_rows ys M X P → d_all_rows (startD 4 ys) M (bodyN M.length X P) := by
  rintro ys M X P ⟨n, s, ws, l, N, rfl, ok, hl, hN, hfix, hM, q⟩
  unfold d_all_rows
  walk_at "ev"
  have hM1 : ∀ i, ∀ c ∈ M ++ [Cell.lst (rowsT n s ws l i)], ClnC c := fun i => clnC_app hM (rowsT_cln n s ws l i)
  refine ⟨by decide, n, s, ws, l, rfl, ok, hl, hM1 0, ?_⟩
  try walk_at "ev"
  refine ⟨fun m g M' => ∃ i, m = N - i ∧ i ≤ N ∧ M' = M ++ [.lst (rowsT n s ws l i)] ∧ g = [some (.gm n s ws), some (.tup (iL l)), some (.ptr M.length), some (.tup (iL (itP n s ws l (i + 1))))] ∧ ∀ t, t < i → itP n s ws l (t + 1) ≠ itP n s ws l t, ⟨N, 0, rfl, Nat.zero_le _, rfl, rfl, fun t ht => by omega⟩, ?_⟩
  rintro m g M1 ⟨i, rfl, hi, rfl, rfl, hlt⟩
  try walk_at "ev"
  refine ⟨_, seqOf_ptr last_get, _, rowsT_last n s ws l i, rdNe_t _ _ _ _ ?_⟩
  by_cases hT : itP n s ws l (i + 1) = itP n s ws l i
  · refine ⟨false, by rw [decide_eq_true hT]; rfl, ?_⟩
    rw [if_neg (by decide)]
    try walk_at "ev"
    refine ⟨_, last_get, ?_⟩
    rw [last_set]
    exact .drop rfl (Nat.le_refl _) hM (.lst (rowsT_cln n s ws l i)) (q i hi hT hlt)
  · refine ⟨true, by rw [decide_eq_false hT]; rfl, ?_⟩
    rw [if_pos rfl]
    have hiN : i < N := by
      rcases Nat.lt_or_ge i N with h | h
      · exact h
      · have : i = N := by omega
        subst this
        exact absurd hfix hT
    try walk_at "ev"
    refine ⟨⟨_, last_get⟩, _, last_get, by rw [rowsT_len, sizeLine_val]; omega, ?_⟩
    rw [last_set]
    have e : rowsT n s ws l i ++ [D.tup (iL (itP n s ws l (i + 1)))] = rowsT n s ws l (i + 1) := (rowsT_succ n s ws l i).symm
    rw [e]
    refine ⟨n, s, ws, _, rfl, ok, itP_len hl (i + 1), hM1 (i + 1), ?_⟩
    try walk_at "ev"
    refine ⟨N - (i + 1), by omega, i + 1, rfl, by omega, rfl, rfl, fun t ht => ?_⟩
    rcases Nat.lt_or_ge t i with h | h
    · exact hlt t h
    · have : t = i := by omega
      subst this
      exact hT
end Sw

/-! SwO: the kernel's search for all rings of up to 12 children. -/
namespace Sw
theorem a7 : allAsc 7 6 1 [] = true := by decide +kernel
theorem a8 : allAsc 8 7 1 [] = true := by decide +kernel
theorem a9 : allAsc 9 8 1 [] = true := by decide +kernel
theorem a10 : allAsc 10 9 1 [] = true := by decide +kernel
theorem a11 : allAsc 11 10 1 [] = true := by decide +kernel
theorem a12 : allAsc 12 11 1 [] = true := by decide +kernel
theorem all_rings {m : Nat} (h0 : 0 < m) (h12 : m ≤ 12) : allAsc m (m - 1) 1 [] = true := by
  have h := all6
  simp only [Bool.and_eq_true] at h
  obtain ⟨⟨⟨⟨⟨h1, h2⟩, h3⟩, h4⟩, h5⟩, h6⟩ := h
  have : m = 1 ∨ m = 2 ∨ m = 3 ∨ m = 4 ∨ m = 5 ∨ m = 6 ∨ m = 7 ∨ m = 8 ∨ m = 9 ∨ m = 10 ∨ m = 11 ∨ m = 12 := by omega
  rcases this with rfl | rfl | rfl | rfl | rfl | rfl | rfl | rfl | rfl | rfl | rfl | rfl
  · exact h1
  · exact h2
  · exact h3
  · exact h4
  · exact h5
  · exact h6
  · exact a7
  · exact a8
  · exact a9
  · exact a10
  · exact a11
  · exact a12
end Sw

namespace Sw
open PySem PySem.Spec PyProof.Rows L2 PD
local macro_rules | `(tactic| walk_at "ev") => `(tactic| simp only [sSeq, sAsg, sRet, sRetN, sIf, sDrop, sNx, sPar, sPar3, gN, gT, gsCons, gsNil, dV, dC, dI, dOp, dUn, dCh, dB, dAnd, dOr, dNot, dAndV, dOrV, dNotV, dIf, dNil, dCons, dTup, dLst, dCB, dCall, dSetLen, sTry, hdlD, dkRun, dkCls, dI0, dI2, rdLen, rdIsi, rdIsiT, rdIx, dGet_eq, rdGet_size, rdGet_share, rdGet_ways,
  sFor_eq, dLc_eq, iTp, iLs, iSc, iR1, iR2, iEnT, iEnL, iEnS, wipeD_nil, wipeD_cons, sOpen, dShut, sBrk, sCnt, sNever, dNeg, dPart, dNoPart, dSl, sAug, sSetL, dApp, dPopAt, dNewL, dNewCat, dToRng, sPut, dMake, finG, sRaise0, sRaise1, sFrz, dNewRep, dNewList, dPop, dStar, dUn,
  rdEq_i, rdNe_i, sI_2, ixN_0, ixN_1, Cell.lst.injEq, rdInt_i, rdInt_b, rdAbs_i, rdMax2_i, eqD_int, eqOk_int, cellD_int, eqD_bl, eqOk_bl, cellD_bl, eqOk_non, seqOf_lst, seqOf_tup, lstOf_lst, atD_0, atD_1, atD_2, List.set_set, cellD_lst, cellD_tup, iL_cons, iL_nil, iL_len,
  startD, bodyN, List.map_cons, List.map_nil, List.length_cons, List.length_nil, List.replicate_succ, List.replicate_zero, List.cons_append, List.nil_append, List.append_nil, List.getElem?_cons_zero, List.getElem?_cons_succ, List.set_cons_zero, List.set_cons_succ, Nat.reduceSub, Nat.reduceAdd, Nat.zero_add,
  Option.some.injEq, exists_eq_left', exists_eq_left, D.int.injEq, D.bl.injEq, D.lst.injEq, D.tup.injEq, D.str.injEq, D.ptr.injEq, D.scr.injEq, D.gm.injEq, List.cons.injEq, and_true, true_and, exists_and_left, exists_and_right, D.ty.injEq, and_assoc, ↓reduceIte, eq_self, Bool.not_true, Bool.not_false, Bool.false_eq_true, decide_true, decide_false])
/-! SwV: rows judged. -/
def isRow (n : Int) (v : D) : Bool := match v with
  | .tup ys => decide ((ys.length : Int) = n) && ys.all fun y => D.isI y && decide (0 ≤ intD y)
  | _ => false
abbrev sp_is_row : DSp := fun xs M X k => ∃ n s ws v, xs = [.gm n s ws, v] ∧ n ≤ 12 ∧ TyOk M v ∧ (∀ c ∈ M, ClnC c) ∧ k (.bl (isRow n v)) M
abbrev d_is_row : DS := (sSeq (sIf (dOr (dNot (dB (dCB rdIsi (dCons (dV 1) (dCons (dC (.ty "tuple")) dNil))))) (dB (dOp rdNe (dCB rdLen (dCons (dV 1) dNil)) (dGet "size" (dV 0))))) (sRet (dC (.bl false))) sNx) (sRet (dCB rdAll (dCons (dLc (iTp (dV 1)) (gN 2) dYes (dAndV (dCall sp_is_integer [] (dCons (dV 2) dNil)) (dOp rdGe (dV 2) (dI 0))) [2]) dNil))))
--  3 ['game', 'value', 'number']
theorem bools_of {zs : List D} (h : ∀ z ∈ zs, ∃ b, z = .bl b) : zs = (zs.map boolD).map D.bl := by
  rw [List.map_map]
  refine List.ext_getElem? fun i => ?_
  rw [List.getElem?_map]
  cases e : zs[i]? with
  | none => rfl
  | some z => obtain ⟨b, rfl⟩ := h z (List.mem_of_getElem? e); rfl
theorem pure_is_row : ∀ ys M X P, sp_is_row ys M X P → d_is_row (startD 3 ys) M (bodyN M.length X P) := by
  rintro ys M X P ⟨n, s, ws, v, rfl, hn, ⟨hv, hvs⟩, hM, q⟩
  unfold d_is_row
  walk_at "ev"
  refine ⟨hv, by decide, ?_⟩
  rcases isB_tup (x := v) (M := M) with ⟨zs, rfl⟩ | e1
  · rw [show isB (tyN (.tup zs) M) "tuple" = true from rfl]
    try walk_at "ev"
    unfold isRow at q
    dsimp only at q
    by_cases h1 : (zs.length : Int) = n
    · rw [decide_eq_true h1] at q ⊢
      try walk_at "ev"
      refine lc_map (fun y => .bl (D.isI y && decide (0 ≤ intD y))) hM (by rw [sizeLine_val]; omega) (fun y hy => .bl _) ?_ ?_
      · intro y hy acc _ Q hQ
        try walk_at "ev"
        have ht : tyN y (M ++ [Cell.lst acc]) ∈ tyL := by
          have h := hvs _ rfl y hy
          cases y with
          | ptr j =>
            unfold tyN at h ⊢
            dsimp only at h ⊢
            split at h
            · rename_i xs e
              rw [get_app e]
              exact h
            · exact absurd h (by decide)
          | _ => exact h
        refine ⟨y, rfl, ht, ?_⟩
        cases y with
        | int i =>
          try walk_at "ev"
          exact hQ
        | _ => exact ⟨false, rfl, hQ⟩
      · refine ⟨_, zs.map (fun y => D.isI y && decide (0 ≤ intD y)), rfl, ?_, ?_⟩
        · rw [lstOf_lst, List.map_map]; rfl
        · rw [List.all_map]
          refine .same ?_
          simpa using q
    · rw [decide_eq_false h1] at q ⊢
      try walk_at "ev"
      exact .same q
  · rw [e1]
    try walk_at "ev"
    refine .same ?_
    cases v with
    | tup zs => cases e1
    | _ => exact q
def firstBadR (n : Int) (ys : List D) : Option Nat := (List.range ys.length).find? fun i => !isRow n (ys.getD i .non)
def seqD (x : D) : Option (List D) := match x with
  | .lst ys => some ys
  | .tup ys => some ys
  | _ => none
def rowsErr (n : Int) (x : D) : Option Exn := match seqD x with
  | some ys => if 1 ≤ ys.length ∧ ys.length ≤ 200 then (firstBadR n ys).map (fun (i : Nat) => (⟨"BadRows", some ("index", .int (i : Int))⟩ : Exn)) else some ⟨"BadRows", some ("index", .non)⟩
  | none => some ⟨"BadRows", some ("index", .non)⟩
def rowsD (R : List (List Int)) : List D := R.map fun r => .tup (iL r)
def RowOk (n : Int) (r : List Int) : Prop := (r.length : Int) = n ∧ ∀ v ∈ r, 0 ≤ v
theorem isRow_of {n : Int} {v : D} : isRow n v = true ↔ ∃ r, v = .tup (iL r) ∧ RowOk n r := by
  constructor
  · intro h
    cases v with
    | tup ys =>
      simp only [isRow, Bool.and_eq_true, decide_eq_true_eq, List.all_eq_true] at h
      refine ⟨ys.map intD, ?_, by rw [List.length_map]; exact h.1, fun x hx => ?_⟩
      · congr 1
        unfold iL
        rw [List.map_map]
        refine List.ext_getElem? fun j => ?_
        rw [List.getElem?_map]
        cases e : ys[j]? with
        | none => rfl
        | some d =>
          have := (h.2 d (List.mem_of_getElem? e)).1
          cases d <;> first | rfl | cases this
      · obtain ⟨d, hd, rfl⟩ := List.mem_map.mp hx
        exact (h.2 d hd).2
    | _ => cases h
  · rintro ⟨r, rfl, h1, h2⟩
    simp only [isRow, Bool.and_eq_true, decide_eq_true_eq, List.all_eq_true]
    refine ⟨by rw [iL_len]; exact h1, fun d hd => ?_⟩
    obtain ⟨i, hi, rfl⟩ := List.mem_map.mp hd
    exact ⟨rfl, h2 i hi⟩
def wrongAt (n s : Int) (ws : List Int) (R : List (List Int)) (i : Nat) : Bool := decide (passL n s ws (R.getD (i - 1) []) ≠ R.getD i [])
def firstWrong (n s : Int) (ws : List Int) (R : List (List Int)) : Option Nat := ((List.range (R.length - 1)).map (· + 1)).find? (wrongAt n s ws R)
def wrongD (o : Option Nat) : D := match o with
  | some i => .int (i : Int)
  | none => .non
abbrev sp_first_wrong : DSp := fun xs M X k => ∃ n s ws x, xs = [.gm n s ws, x] ∧ GOk n s ws ∧ tyN x M ∈ tyL ∧ (∀ j, x ≠ .ptr j) ∧ (∀ ys, seqD x = some ys → ∀ d ∈ ys, TyOk M d) ∧ (∀ c ∈ M, ClnC c) ∧ (∀ e, rowsErr n x = some e → X e M) ∧
  ∀ R, seqD x = some (rowsD R) → 1 ≤ R.length → R.length ≤ 200 → (∀ r ∈ R, RowOk n r) → k (wrongD (firstWrong n s ws R)) M
abbrev d_first_wrong : DS := (sSeq (sIf (dOr (dNot (dB (dCB rdIsiT (dCons (dV 1) (dCons (dTup (dCons (dC (.ty "list")) (dCons (dC (.ty "tuple")) dNil))) dNil))))) (dNot (dB (dCh rdLe rdLe (dI 1) (dCB rdLen (dCons (dV 1) dNil)) (dI 200))))) (sRaise1 "BadRows" "index" (dC .non)) sNx) (sSeq (sFor (iEnS (dCons (dV 1) dNil)) (gT 2 (gsCons (gN 2) (gsCons (gN 3) gsNil))) (sIf (dNot (dB (dCall sp_is_row [] (dCons (dV 0) (dCons (dV 3) dNil))))) (sRaise1 "BadRows" "index" (dV 2)) sNx)) (sSeq (sFor (iR2 (dCons (dI 1) (dCons (dCB rdLen (dCons (dV 1) dNil)) dNil))) (gN 2) (sIf (dB (dOp rdNe (dCall sp_passed [] (dCons (dV 0) (dCons (dOp rdIx (dV 1) (dOp rdSub (dV 2) (dI 1))) dNil))) (dOp rdIx (dV 1) (dV 2)))) (sRet (dV 2)) sNx)) (sRet (dC .non)))))
--  4 ['game', 'rows', 'index', 'row']
theorem rowsD_get {R : List (List Int)} {i : Nat} (h : i < R.length) : (rowsD R)[i]? = some (.tup (iL (R.getD i []))) := by
  unfold rowsD
  rw [List.getElem?_map, List.getElem?_eq_getElem h, List.getD_eq_getElem?_getD, List.getElem?_eq_getElem h]
  rfl
theorem rowsD_len (R : List (List Int)) : (rowsD R).length = R.length := by unfold rowsD; rw [List.length_map]
theorem rows_of {n : Int} {ys : List D} (h : ∀ i, i < ys.length → isRow n (ys.getD i .non) = true) : ∃ R, ys = rowsD R ∧ ∀ r ∈ R, RowOk n r := by
  induction ys with
  | nil => exact ⟨[], rfl, fun r hr => by cases hr⟩
  | cons y ys ih =>
    obtain ⟨R, e, hR⟩ := ih fun i hi => h (i + 1) (by simp; omega)
    obtain ⟨r, e2, hr⟩ := isRow_of.mp (h 0 (by simp))
    have e2 : y = .tup (iL r) := e2
    refine ⟨r :: R, by rw [e, e2]; rfl, fun r' hr' => ?_⟩
    rcases List.mem_cons.mp hr' with rfl | h
    · exact hr
    · exact hR r' h
theorem pure_first_wrong : ∀ ys M X P, sp_first_wrong ys M X P → d_first_wrong (startD 4 ys) M (bodyN M.length X P) := by
  rintro ys M X P ⟨n, s, ws, x, rfl, ok, hx, hnp, hxs, hM, hE, hK⟩
  have hn2 := ok.n2
  have hn12 := ok.n12
  unfold d_first_wrong
  walk_at "ev"
  refine ⟨by decide, ["list", "tuple"], rfl, hx, by simp [tyL], ?_⟩
  cases hseq : seqD x with
  | none =>
    have e1 : (["list", "tuple"].any fun n => isB (tyN x M) n) = false := by
      cases x with
      | lst _ => cases hseq
      | tup _ => cases hseq
      | ptr j => exact absurd rfl (hnp j)
      | _ => rfl
    rw [e1]
    try walk_at "ev"
    refine .same (hE _ ?_)
    unfold rowsErr
    rw [hseq]
  | some zs =>
    have e1 : (["list", "tuple"].any fun n => isB (tyN x M) n) = true := by
      cases x with
      | lst _ => rfl
      | tup _ => rfl
      | _ => cases hseq
    have e2 : seqOf x M = some zs := by
      cases x with
      | lst _ => cases hseq; rfl
      | tup _ => cases hseq; rfl
      | _ => cases hseq
    have e3 : x = .lst zs ∨ x = .tup zs := by
      cases x with
      | lst _ => cases hseq; exact .inl rfl
      | tup _ => cases hseq; exact .inr rfl
      | _ => cases hseq
    unfold rowsErr at hE
    rw [hseq] at hE
    dsimp only at hE
    rw [e1]
    try walk_at "ev"
    refine ⟨zs, e2, ?_⟩
    by_cases h1 : (1 : Int) ≤ (zs.length : Int)
    rotate_left
    · rw [decide_eq_false h1]
      try walk_at "ev"
      rw [if_neg (fun h => h1 (by omega))] at hE
      exact .same (hE _ rfl)
    rw [decide_eq_true h1]
    try walk_at "ev"
    by_cases h2 : (zs.length : Int) ≤ 200
    rotate_left
    · rw [decide_eq_false h2]
      try walk_at "ev"
      rw [if_neg (fun h => h2 (by omega))] at hE
      exact .same (hE _ rfl)
    rw [decide_eq_true h2]
    try walk_at "ev"
    rw [if_pos ⟨by omega, by omega⟩] at hE
    refine ⟨zs, e3, ?_⟩
    refine for_inv (fun i g M' => M' = M ∧ (∃ a b, g = [some (.gm n s ws), some x, a, b]) ∧ ∀ m, m < i → isRow n (zs.getD m .non) = true) ⟨rfl, ⟨none, none, rfl⟩, fun m h => by omega⟩ ?_ ?_
    · rintro i y g1 M1 e ⟨rfl, ⟨a, b, rfl⟩, hbad⟩
      obtain ⟨d, ed, rfl⟩ := enumD_inv e
      have hi := (List.getElem?_eq_some_iff.mp ed).1
      try walk_at "ev"
      refine ⟨n, s, ws, d, rfl, hn12, hxs zs hseq d (List.mem_of_getElem? ed), hM, ?_⟩
      cases ed1 : isRow n d with
      | false =>
        try walk_at "ev"
        refine .same (hE _ ?_)
        unfold firstBadR
        rw [find_lt (fun j hj => by rw [hbad j hj]; rfl) (by rw [getD_of ed, ed1]; rfl) hi]
        rfl
      | true =>
        try walk_at "ev"
        refine ⟨⟨_, rfl⟩, fun m hm => ?_⟩
        by_cases hm2 : m = i
        · subst hm2; rw [getD_of ed]; exact ed1
        · exact hbad m (by omega)
    · rintro g1 M1 ⟨rfl, ⟨a, b, rfl⟩, hbad⟩
      rw [enumD_len] at hbad
      obtain ⟨R, rfl, hR⟩ := rows_of hbad
      rw [rowsD_len] at h1 h2
      have q := hK R hseq (by omega) (by omega) hR
      have hRow : ∀ i, i < R.length → RowOk n (R.getD i []) := fun i hi => by
        rw [List.getD_eq_getElem?_getD, List.getElem?_eq_getElem hi]
        exact hR _ (List.getElem_mem _)
      try walk_at "ev"
      refine ⟨rowsD R, e2, by decide, by decide, by rw [rowsD_len]; omega, by rw [rowsD_len]; omega, ?_⟩
      refine for_inv (fun i g M' => M' = M1 ∧ (∃ a b, g = [some (.gm n s ws), some x, a, b]) ∧ ∀ m, 1 ≤ m → m < i + 1 → wrongAt n s ws R m = false) ⟨rfl, ⟨_, _, rfl⟩, fun m h1 h2 => by omega⟩ ?_ ?_
      · rintro i y g2 M2 e ⟨rfl, ⟨a2, b2, rfl⟩, hw⟩
        obtain ⟨hi, rfl⟩ := rng_get2 _ _ _ _ e
        rw [rowsD_len] at hi
        have g0 : atD (rowsD R) (1 + (i : Int) - 1) = some (.tup (iL (R.getD i []))) := by
          rw [show (1 + (i : Int) - 1) = ((i : Nat) : Int) by omega, atD_nat, rowsD_get (by omega)]
        have g1 : atD (rowsD R) (1 + (i : Int)) = some (.tup (iL (R.getD (i + 1) []))) := by
          rw [show (1 + (i : Int)) = (((i + 1 : Nat)) : Int) by omega, atD_nat, rowsD_get (by omega)]
        try walk_at "ev"
        refine ⟨rowsD R, e2, _, g0, n, s, ws, _, rfl, ok, (hRow i (by omega)).1, hM, rowsD R, e2, _, g1, ?_⟩
        refine rdNe_t _ _ _ _ ?_
        try walk_at "ev"
        have ew : wrongAt n s ws R (i + 1) = !decide (passL n s ws (R.getD i []) = R.getD (i + 1) []) := by
          unfold wrongAt
          rw [Nat.add_sub_cancel]
          by_cases h : passL n s ws (R.getD i []) = R.getD (i + 1) [] <;> simp [h]
        cases hd : decide (passL n s ws (R.getD i []) = R.getD (i + 1) []) with
        | true =>
          try walk_at "ev"
          refine ⟨⟨_, rfl⟩, fun m hm1 hm2 => ?_⟩
          by_cases hm3 : m = i + 1
          · subst hm3; rw [ew, hd]; rfl
          · exact hw m hm1 (by omega)
        | false =>
          try walk_at "ev"
          refine .same ?_
          have ef : firstWrong n s ws R = some (i + 1) := by
            unfold firstWrong
            rw [List.find?_map, find_lt (p := wrongAt n s ws R ∘ fun x => x + 1) (i := i) (fun j hj => hw (j + 1) (by omega) (by omega)) (by show wrongAt n s ws R (i + 1) = true; rw [ew, hd]; rfl) (by omega)]
            rfl
          rw [ef] at q
          have e5 : wrongD (some (i + 1)) = .int (1 + (i : Int)) := by show D.int (((i + 1 : Nat)) : Int) = _; rw [show (((i + 1 : Nat)) : Int) = 1 + (i : Int) by omega]
          rw [e5] at q
          exact q
      · rintro g2 M2 ⟨rfl, ⟨a2, b2, rfl⟩, hw⟩
        rw [rng_len2, rowsD_len] at hw
        have ef : firstWrong n s ws R = none := by
          unfold firstWrong
          rw [List.find?_eq_none]
          intro m hm
          obtain ⟨j, hj, rfl⟩ := List.mem_map.mp hm
          have := List.mem_range.mp hj
          rw [hw (j + 1) (by omega) (by omega)]
          decide
        rw [ef] at q
        exact .same q
end Sw

namespace Sw
open PySem PySem.Spec PyProof.Rows L2 PD
local macro_rules | `(tactic| walk_at "ev") => `(tactic| simp only [sSeq, sAsg, sRet, sRetN, sIf, sDrop, sNx, sPar, sPar3, gN, gT, gsCons, gsNil, dV, dC, dI, dOp, dUn, dCh, dB, dAnd, dOr, dNot, dAndV, dOrV, dNotV, dIf, dNil, dCons, dTup, dLst, dCB, dCall, dSetLen, sTry, hdlD, dkRun, dkCls, dI0, dI2, rdLen, rdIsi, rdIsiT, rdIx, dGet_eq, rdGet_size, rdGet_share, rdGet_ways,
  sFor_eq, dLc_eq, iTp, iLs, iSc, iR1, iR2, iEnT, iEnL, iEnS, wipeD_nil, wipeD_cons, sOpen, dShut, sBrk, sCnt, sNever, dNeg, dPart, dNoPart, dSl, sAug, sSetL, dApp, dPopAt, dNewL, dNewCat, dToRng, sPut, dMake, finG, sRaise0, sRaise1, sFrz, dNewRep, dNewList, dPop, dStar, dUn,
  rdEq_i, rdNe_i, sI_2, ixN_0, ixN_1, Cell.lst.injEq, rdInt_i, rdInt_b, rdAbs_i, rdMax2_i, eqD_int, eqOk_int, cellD_int, eqD_bl, eqOk_bl, cellD_bl, eqOk_non, seqOf_lst, seqOf_tup, lstOf_lst, atD_0, atD_1, atD_2, List.set_set, cellD_lst, cellD_tup, iL_cons, iL_nil, iL_len,
  startD, bodyN, List.map_cons, List.map_nil, List.length_cons, List.length_nil, List.replicate_succ, List.replicate_zero, List.cons_append, List.nil_append, List.append_nil, List.getElem?_cons_zero, List.getElem?_cons_succ, List.set_cons_zero, List.set_cons_succ, Nat.reduceSub, Nat.reduceAdd, Nat.zero_add,
  Option.some.injEq, exists_eq_left', exists_eq_left, D.int.injEq, D.bl.injEq, D.lst.injEq, D.tup.injEq, D.str.injEq, D.ptr.injEq, D.scr.injEq, D.gm.injEq, List.cons.injEq, and_true, true_and, exists_and_left, exists_and_right, D.ty.injEq, and_assoc, ↓reduceIte, eq_self, Bool.not_true, Bool.not_false, Bool.false_eq_true, decide_true, decide_false])
/-! SwI: few children, what was seen. -/
def Lc2B (g : En) (dg : D → En → (En → Prop) → Prop) (dt : DT) (di1 : DIt) (dg1 : D → En → (En → Prop) → Prop) (dt1 : DT) (de : DE) (vs vs1 : List Nat) (k : D → MS → Prop) (ys : List D) (M' : MS) : Prop := (∀ c ∈ M', ClnC c) ∧ ys.length < sizeLine ∧ ∃ Inv : Nat → List D → Prop, Inv 0 [] ∧
  (∀ (i : Nat) (y : D) (acc : List D), ys[i]? = some y → Inv i acc → (∀ d ∈ acc, Cln d) → dg y (wipeD g vs) fun g2 => dt g2 (M' ++ [.lst acc]) X0 fun b M2 => M2 = M' ++ [.lst acc] ∧
    if b = true then di1 g2 (M' ++ [.lst acc]) X0 fun zs M3 => M3 = M' ++ [.lst acc] ∧ ∃ Inv1 : Nat → List D → Prop, Inv1 0 acc ∧
      (∀ (j : Nat) (z : D) (acc1 : List D), zs[j]? = some z → Inv1 j acc1 → (∀ d ∈ acc1, Cln d) → acc1.length < sizeLine ∧ dg1 z (wipeD g2 vs1) fun g3 => dt1 g3 (M' ++ [.lst acc1]) X0 fun b M4 => M4 = M' ++ [.lst acc1] ∧
        if b = true then de g3 (M' ++ [.lst acc1]) X0 fun u M5 => M5 = M' ++ [.lst acc1] ∧ Cln u ∧ Inv1 (j + 1) (acc1 ++ [u]) else Inv1 (j + 1) acc1) ∧
      (∀ acc1, Inv1 zs.length acc1 → Inv (i + 1) acc1)
    else Inv (i + 1) acc) ∧
  ∀ acc, Inv ys.length acc → k (.lst acc) M'
theorem dLc2_eq (di : DIt) (dg : D → En → (En → Prop) → Prop) (dt : DT) (di1 : DIt) (dg1 : D → En → (En → Prop) → Prop) (dt1 : DT) (de : DE) (vs vs1 : List Nat) (g : En) (M : MS) (X : EK) (k : D → MS → Prop) : dLc2 di dg dt di1 dg1 dt1 de vs vs1 g M X k = di g M X fun ys M' => Lc2B g dg dt di1 dg1 dt1 de vs vs1 k ys M' := rfl
theorem lc2_flat {g : En} {i0 j0 : Nat} {di1 : DIt} {de : DE} {vs vs1 : List Nat} {k : D → MS → Prop} {ys : List D} {M : MS} (zsOf : D → List D) (f : D → D → D) (hM : ∀ c ∈ M, ClnC c) (hl : ys.length < sizeLine)
    (hz : ∀ y ∈ ys, ∀ acc : List D, (∀ d ∈ acc, Cln d) → ∀ P : List D → MS → Prop, P (zsOf y) (M ++ [.lst acc]) → di1 ((wipeD g vs).set i0 (some y)) (M ++ [.lst acc]) X0 P)
    (he : ∀ y ∈ ys, ∀ z ∈ zsOf y, ∀ acc : List D, (∀ d ∈ acc, Cln d) → ∀ P : D → MS → Prop, P (f y z) (M ++ [.lst acc]) → de ((wipeD ((wipeD g vs).set i0 (some y)) vs1).set j0 (some z)) (M ++ [.lst acc]) X0 P)
    (hf : ∀ y ∈ ys, ∀ z ∈ zsOf y, Cln (f y z)) (hs : (ys.flatMap fun y => (zsOf y).map (f y)).length ≤ sizeLine) (hk : k (.lst (ys.flatMap fun y => (zsOf y).map (f y))) M) :
    Lc2B g (gN i0) dYes di1 (gN j0) dYes de vs vs1 k ys M := by
  refine ⟨hM, hl, fun i acc => acc = (ys.take i).flatMap fun y => (zsOf y).map (f y), rfl, ?_, ?_⟩
  · rintro i y acc e rfl hc
    have hy : y ∈ ys := List.mem_of_getElem? e
    have htk : ys.take (i + 1) = ys.take i ++ [y] := by rw [List.take_add_one, e]; rfl
    have hsz : ((ys.take i).flatMap fun y => (zsOf y).map (f y)).length + (zsOf y).length ≤ sizeLine := by
      have h1 : ys = ys.take (i + 1) ++ ys.drop (i + 1) := (List.take_append_drop _ _).symm
      have h2 := congrArg (fun l => (List.flatMap (fun y => (zsOf y).map (f y)) l).length) h1
      simp only [List.flatMap_append, List.length_append, htk, List.flatMap_cons, List.flatMap_nil, List.append_nil, List.length_map] at h2
      omega
    refine (⟨rfl, ?_⟩ : _ ∧ _)
    rw [if_pos rfl]
    refine hz y hy _ hc _ ⟨rfl, fun j acc1 => acc1 = ((ys.take i).flatMap fun y => (zsOf y).map (f y)) ++ ((zsOf y).take j).map (f y), by simp, ?_, ?_⟩
    · rintro j z acc1 ez rfl hc1
      have hzm : z ∈ zsOf y := List.mem_of_getElem? ez
      have hj := (List.getElem?_eq_some_iff.mp ez).1
      refine ⟨by rw [List.length_append, List.length_map, List.length_take]; omega, ?_⟩
      refine (⟨rfl, ?_⟩ : _ ∧ _)
      rw [if_pos rfl]
      refine he y hy z hzm _ hc1 _ ⟨rfl, hf y hy z hzm, ?_⟩
      show ((ys.take i).flatMap fun y => (zsOf y).map (f y)) ++ ((zsOf y).take j).map (f y) ++ [f y z] = ((ys.take i).flatMap fun y => (zsOf y).map (f y)) ++ ((zsOf y).take (j + 1)).map (f y)
      rw [List.append_assoc, List.take_add_one, ez, List.map_append]
      rfl
    · rintro acc1 rfl
      rw [List.take_length, htk, List.flatMap_append]
      simp
  · rintro acc rfl
    rw [List.take_length]
    exact hk
def fewErr (n : Int) (x : D) : Option Exn := if 3 < n then some ⟨"TooMany", none⟩ else if isFrom x 0 9 = true then none else some ⟨"BadMost", none⟩
abbrev sp_check_few : DSp := fun xs M X k => ∃ n s ws x, xs = [.gm n s ws, x] ∧ TyOk M x ∧ (∀ e, fewErr n x = some e → X e M) ∧ (fewErr n x = none → k .non M)
abbrev d_check_few : DS := (sSeq (sIf (dB (dOp rdGt (dGet "size" (dV 0)) (dI 3))) (sRaise0 "TooMany") sNx) (sIf (dNot (dB (dCall sp_is_from [] (dCons (dV 1) (dCons (dI 0) (dCons (dI 9) dNil)))))) (sRaise0 "BadMost") sNx))
--  2 ['game', 'most']
abbrev d_is_seen : DS := (sSeq (sIf (dOr (dNot (dB (dCB rdIsi (dCons (dV 1) (dCons (dC (.ty "tuple")) dNil))))) (dOr (dB (dOp rdNe (dCB rdLen (dCons (dV 1) dNil)) (dI 3))) (dNot (dB (dCall sp_is_from [] (dCons (dOp rdIx (dV 1) (dI 0)) (dCons (dI 0) (dCons (dI 50) dNil)))))))) (sRet (dC (.bl false))) sNx) (sRet (dAndV (dCall sp_is_from [] (dCons (dOp rdIx (dV 1) (dI 1)) (dCons (dI 0) (dCons (dOp rdSub (dGet "size" (dV 0)) (dI 1)) dNil)))) (dAndV (dCall sp_is_integer [] (dCons (dOp rdIx (dV 1) (dI 2)) dNil)) (dOp rdGe (dOp rdIx (dV 1) (dI 2)) (dI 0))))))
--  2 ['game', 'value']
theorem pure_check_few : ∀ ys M X P, sp_check_few ys M X P → d_check_few (startD 2 ys) M (bodyN M.length X P) := by
  rintro ys M X P ⟨n, s, ws, x, rfl, ht, h1, h2⟩
  unfold d_check_few
  walk_at "ev"
  by_cases h3 : 3 < n
  · rw [decide_eq_true h3]
    try walk_at "ev"
    exact .same (h1 _ (by unfold fewErr; rw [if_pos h3]))
  · rw [decide_eq_false h3]
    try walk_at "ev"
    unfold fewErr at h1 h2
    rw [if_neg h3] at h1 h2
    refine ⟨x, 0, 9, rfl, ht.1, ?_⟩
    cases e : isFrom x 0 9 with
    | true =>
      rw [e] at h2
      try walk_at "ev"
      exact .same (h2 rfl)
    | false =>
      rw [e] at h1
      try walk_at "ev"
      exact .same (h1 _ rfl)
def isSeen (n : Int) (v : D) : Bool := match v with
  | .tup [a, b, c] => isFrom a 0 50 && isFrom b 0 (n - 1) && D.isI c && decide (0 ≤ intD c)
  | _ => false
abbrev sp_is_seen : DSp := fun xs M X k => ∃ n s ws v, xs = [.gm n s ws, v] ∧ TyOk M v ∧ k (.bl (isSeen n v)) M
theorem pure_is_seen : ∀ ys M X P, sp_is_seen ys M X P → d_is_seen (startD 2 ys) M (bodyN M.length X P) := by
  rintro ys M X P ⟨n, s, ws, v, rfl, ⟨hv, hvs⟩, q⟩
  unfold d_is_seen
  walk_at "ev"
  refine ⟨hv, by decide, ?_⟩
  rcases isB_tup (x := v) (M := M) with ⟨zs, rfl⟩ | e1
  · rw [show isB (tyN (.tup zs) M) "tuple" = true from rfl]
    try walk_at "ev"
    by_cases h3 : (zs.length : Int) = 3
    · rw [decide_eq_true h3]
      try walk_at "ev"
      obtain ⟨a, b, c, rfl⟩ : ∃ a b c, zs = [a, b, c] := by
        match zs, h3 with
        | [a, b, c], _ => exact ⟨a, b, c, rfl⟩
        | [], h => simp at h
        | [_], h => simp at h
        | [_, _], h => simp at h
        | _ :: _ :: _ :: _ :: _, h => simp at h; omega
      have ta := hvs _ rfl a (by simp)
      have tb := hvs _ rfl b (by simp)
      have tc := hvs _ rfl c (by simp)
      unfold isSeen at q
      dsimp only at q
      refine ⟨a, rfl, a, 0, 50, rfl, ta, ?_⟩
      cases ea : isFrom a 0 50 with
      | false =>
        rw [ea] at q
        try walk_at "ev"
        exact .same q
      | true =>
        rw [ea] at q
        try walk_at "ev"
        refine ⟨b, 0, n - 1, rfl, tb, ?_⟩
        cases eb : isFrom b 0 (n - 1) with
        | false =>
          rw [eb] at q
          try walk_at "ev"
          exact .same q
        | true =>
          rw [eb] at q
          try walk_at "ev"
          refine ⟨c, rfl, tc, ?_⟩
          cases ec : D.isI c with
          | false =>
            rw [ec] at q
            try walk_at "ev"
            exact .same q
          | true =>
            rw [ec] at q
            try walk_at "ev"
            cases c with
            | int i => exact ⟨i, rfl, .same q⟩
            | _ => cases ec
    · rw [decide_eq_false h3]
      try walk_at "ev"
      have : isSeen n (.tup zs) = false := by
        match zs, h3 with
        | [a, b, c], h => exact absurd rfl h
        | [], h => rfl
        | [_], h => rfl
        | [_, _], h => rfl
        | _ :: _ :: _ :: _ :: _, h => rfl
      rw [this] at q
      exact .same q
  · rw [e1]
    try walk_at "ev"
    have : isSeen n v = false := by
      cases v with
      | tup zs => cases e1
      | _ => rfl
    rw [this] at q
    exact .same q
end Sw

namespace Sw
open PySem PySem.Spec PyProof.Rows L2 PD
local macro_rules | `(tactic| walk_at "ev") => `(tactic| simp only [sSeq, sAsg, sRet, sRetN, sIf, sDrop, sNx, sPar, sPar3, gN, gT, gsCons, gsNil, dV, dC, dI, dOp, dUn, dCh, dB, dAnd, dOr, dNot, dAndV, dOrV, dNotV, dIf, dNil, dCons, dTup, dLst, dCB, dCall, dSetLen, sTry, hdlD, dkRun, dkCls, dI0, dI2, rdLen, rdIsi, rdIsiT, rdIx, dGet_eq, rdGet_size, rdGet_share, rdGet_ways,
  sFor_eq, dLc_eq, iTp, iLs, iSc, iR1, iR2, iEnT, iEnL, iEnS, wipeD_nil, wipeD_cons, sOpen, dShut, sBrk, sCnt, sNever, dNeg, dPart, dNoPart, dSl, sAug, sSetL, dApp, dPopAt, dNewL, dNewCat, dToRng, sPut, dMake, finG, sRaise0, sRaise1, sFrz, dNewRep, dLc2_eq, iSeq, dNewList, dPop, dStar, dUn,
  rdEq_i, rdNe_i, sI_2, ixN_0, ixN_1, Cell.lst.injEq, rdInt_i, rdInt_b, rdAbs_i, rdMax2_i, eqD_int, eqOk_int, cellD_int, eqD_bl, eqOk_bl, cellD_bl, eqOk_non, seqOf_lst, seqOf_tup, lstOf_lst, atD_0, atD_1, atD_2, List.set_set, cellD_lst, cellD_tup, iL_cons, iL_nil, iL_len,
  startD, bodyN, List.map_cons, List.map_nil, List.length_cons, List.length_nil, List.replicate_succ, List.replicate_zero, List.cons_append, List.nil_append, List.append_nil, List.getElem?_cons_zero, List.getElem?_cons_succ, List.set_cons_zero, List.set_cons_succ, Nat.reduceSub, Nat.reduceAdd, Nat.zero_add,
  Option.some.injEq, exists_eq_left', exists_eq_left, D.int.injEq, D.bl.injEq, D.lst.injEq, D.tup.injEq, D.str.injEq, D.ptr.injEq, D.scr.injEq, D.gm.injEq, List.cons.injEq, and_true, true_and, exists_and_left, exists_and_right, D.ty.injEq, and_assoc, ↓reduceIte, eq_self, Bool.not_true, Bool.not_false, Bool.false_eq_true, decide_true, decide_false])
--EVX dLc2_eq iSeq
/-! SwH: all starts; those that fit. -/
/-- all rows of k numbers from 0 to m, ascending -/
def rowsUp (m : Int) : Nat → List (List Int)
  | 0 => [[]]
  | k + 1 => (rowsUp m k).flatMap fun r => (rngL 0 (m + 1).toNat).map fun v => r ++ [v]
theorem rngL_len (a : Int) (n : Nat) : (rngL a n).length = n := by unfold rngL; rw [List.length_map, List.length_range]
theorem rowsUp_len (m : Int) : ∀ k, (rowsUp m k).length = (m + 1).toNat ^ k
  | 0 => rfl
  | k + 1 => by
    have h : ∀ L : List (List Int), (L.flatMap fun r => (rngL 0 (m + 1).toNat).map fun v => r ++ [v]).length = L.length * (m + 1).toNat := fun L => by
      induction L with
      | nil => simp
      | cons r L ih => rw [List.flatMap_cons, List.length_append, ih, List.length_map, rngL_len, List.length_cons, Nat.add_mul, Nat.one_mul, Nat.add_comm]
    show ((rowsUp m k).flatMap _).length = _
    rw [h, rowsUp_len m k, Nat.pow_succ]
theorem rowsUp_mem {m : Int} : ∀ {k : Nat} {r : List Int}, r ∈ rowsUp m k → r.length = k ∧ ∀ x ∈ r, 0 ≤ x ∧ x ≤ m
  | 0, r, h => by
    have : r = [] := by simpa [rowsUp] using h
    subst this
    exact ⟨rfl, fun x hx => nomatch hx⟩
  | k + 1, r, h => by
    obtain ⟨q, hq, h2⟩ := List.mem_flatMap.mp h
    obtain ⟨v, hv, rfl⟩ := List.mem_map.mp h2
    obtain ⟨i, hi, rfl⟩ := List.mem_map.mp hv
    have hi := List.mem_range.mp hi
    obtain ⟨h3, h4⟩ := rowsUp_mem hq
    refine ⟨by rw [List.length_append, h3]; rfl, fun x hx => ?_⟩
    rcases List.mem_append.mp hx with hx | hx
    · exact h4 x hx
    · rw [List.mem_singleton.mp hx]; omega
def addD (y z : D) : D := match y with
  | .tup xs => .tup (xs ++ [z])
  | _ => .non
theorem flat_rows (m : Int) (R : List (List Int)) : (rowsD R).flatMap (fun y => (iL (rngL 0 (m + 1).toNat)).map (addD y)) = rowsD (R.flatMap fun r => (rngL 0 (m + 1).toNat).map fun v => r ++ [v]) := by
  induction R with
  | nil => rfl
  | cons r R ih =>
    unfold rowsD at *
    rw [List.map_cons, List.flatMap_cons, ih, List.flatMap_cons, List.map_append]
    congr 1
    unfold iL
    rw [List.map_map, List.map_map]
    exact List.map_congr_left fun v _ => by
      show addD (.tup (iL r)) (.int v) = .tup (iL (r ++ [v]))
      unfold addD iL
      rw [List.map_append]
      rfl
abbrev sp_starts_of : DSp := fun xs M X k => ∃ n s ws m, xs = [.gm n s ws, .int m] ∧ 0 ≤ n ∧ n ≤ 3 ∧ 0 ≤ m ∧ m ≤ 9 ∧ (∀ c ∈ M, ClnC c) ∧ k (.lst (rowsD (rowsUp m n.toNat))) M
abbrev d_starts_of : DS := (sSeq (sAsg (dLst (dCons (dTup dNil) dNil)) (gN 2)) (sSeq (sFor (iR1 (dCons (dGet "size" (dV 0)) dNil)) (gN 3) (sAsg (dLc2 (iLs (dV 2)) (gN 4) dYes (iR1 (dCons (dOp rdAdd (dV 1) (dI 1)) dNil)) (gN 5) dYes (dTup (dStar (dV 4) (dCons (dV 5) dNil))) [4, 5] [5]) (gN 2))) (sRet (dV 2))))
--  6 ['game', 'most', 'found', 'lap', 'row', 'number']
theorem pure_starts_of : ∀ ys M X P, sp_starts_of ys M X P → d_starts_of (startD 6 ys) M (bodyN M.length X P) := by
  rintro ys M X P ⟨n, s, ws, m, rfl, hn0, hn, hm0, hm, hM, q⟩
  unfold d_starts_of
  walk_at "ev"
  refine ⟨Nat.zero_le _, by rw [sizeLine_val]; decide, by omega, by omega, ?_⟩
  refine for_inv (fun i g M' => M' = M ∧ ∃ b3 b4 b5, g = [some (.gm n s ws), some (.int m), some (.lst (rowsD (rowsUp m i))), b3, b4, b5]) ⟨rfl, _, _, _, rfl⟩ ?_ ?_
  · rintro i y g1 M1 e ⟨rfl, b3, b4, b5, rfl⟩
    obtain ⟨hi, rfl⟩ := rng_get _ _ _ e
    have hlen := rowsUp_len m i
    have hlen2 := rowsUp_len m (i + 1)
    have hp : ∀ k, k ≤ 3 → (m + 1).toNat ^ k ≤ 1000 := fun k hk => by
      have h1 : (m + 1).toNat ^ k ≤ 10 ^ k := Nat.pow_le_pow_left (by omega) k
      have h2 : 10 ^ k ≤ 10 ^ 3 := Nat.pow_le_pow_right (by decide) hk
      omega
    have hp1 := hp i (by omega)
    have hp2 := hp (i + 1) (by omega)
    try walk_at "ev"
    refine lc2_flat (fun _ => iL (rngL 0 (m + 1).toNat)) addD hM (by rw [rowsD_len, hlen, sizeLine_val]; omega) ?_ ?_ ?_ ?_ ?_
    · intro y hy acc _ Q hQ
      try walk_at "ev"
      exact ⟨by omega, by omega, hQ⟩
    · intro y hy z hz acc _ Q hQ
      obtain ⟨r, hr, rfl⟩ := List.mem_map.mp hy
      obtain ⟨v, hv, rfl⟩ := List.mem_map.mp hz
      have hr2 := (rowsUp_mem hr).1
      try walk_at "ev"
      exact ⟨by rw [List.length_append, iL_len, hr2, List.length_singleton, sizeLine_val]; omega, hQ⟩
    · intro y hy z hz
      obtain ⟨r, hr, rfl⟩ := List.mem_map.mp hy
      obtain ⟨v, hv, rfl⟩ := List.mem_map.mp hz
      refine .tup fun d hd => ?_
      rcases List.mem_append.mp hd with hd | hd
      · exact Cln.iL d hd
      · rw [List.mem_singleton.mp hd]; exact .int _
    · rw [flat_rows, rowsD_len, show (rowsUp m i).flatMap (fun r => (rngL 0 (m + 1).toNat).map fun v => r ++ [v]) = rowsUp m (i + 1) from rfl, hlen2, sizeLine_val]
      omega
    · rw [flat_rows]
      try walk_at "ev"
      exact ⟨rfl, _, rfl⟩
  · rintro g1 M1 ⟨rfl, b3, b4, b5, rfl⟩
    rw [rng_len]
    try walk_at "ev"
    exact .same q
def y0 : D → List Int
  | .tup xs => xs.map intD
  | _ => []
theorem y0_iL (l : List Int) : y0 (.tup (iL l)) = l := by
  show (iL l).map intD = l
  unfold iL
  rw [List.map_map]
  exact List.map_id'' (fun _ => rfl) l
/-- what was seen, as data -/
def seenD (S : List (Int × Int × Int)) : List D := S.map fun t => .tup [.int t.1, .int t.2.1, .int t.2.2]
def SeenOk (n : Int) (S : List (Int × Int × Int)) : Prop := ∀ t ∈ S, 0 ≤ t.1 ∧ t.1 ≤ 50 ∧ 0 ≤ t.2.1 ∧ t.2.1 < n
def fitsB (n s : Int) (ws : List Int) (S : List (Int × Int × Int)) (l : List Int) : Bool := S.all fun t => decide (vl (itP n s ws l t.1.toNat) t.2.1 = t.2.2)
/-- the last round that was seen -/
def farOf (S : List (Int × Int × Int)) : Int := lmax (0 :: S.map (·.1))
theorem far_le {n : Int} {S : List (Int × Int × Int)} (h : SeenOk n S) : 0 ≤ farOf S ∧ farOf S ≤ 50 ∧ ∀ t ∈ S, t.1 ≤ farOf S := by
  refine ⟨le_lmax (by simp), ?_, fun t ht => le_lmax (List.mem_cons_of_mem _ (List.mem_map.mpr ⟨t, ht, rfl⟩))⟩
  have h1 : farOf S ∈ 0 :: S.map (·.1) := lmax_mem (by simp)
  rcases List.mem_cons.mp h1 with h2 | h2
  · omega
  · obtain ⟨t, ht, e⟩ := List.mem_map.mp h2
    have := h t ht
    omega
def get0 : D → D
  | .tup (a :: _) => a
  | _ => .non
theorem firsts (S : List (Int × Int × Int)) : (seenD S).map get0 = iL (S.map (·.1)) := by
  unfold seenD iL
  rw [List.map_map, List.map_map]
  rfl
def fit1 (n s : Int) (ws l : List Int) : D → Bool
  | .tup [.int a, .int b, .int c] => decide (vl (itP n s ws l a.toNat) b = c)
  | _ => false
theorem fit1_all (n s : Int) (ws l : List Int) (S : List (Int × Int × Int)) : ((seenD S).map (fit1 n s ws l)).all id = fitsB n s ws S l := by
  unfold seenD fitsB
  rw [List.map_map, List.all_map]
  rfl
abbrev sp_do_fit : DSp := fun xs M X k => ∃ n s ws l S x, xs = [.gm n s ws, .tup (iL l), x] ∧ GOk n s ws ∧ (l.length : Int) = n ∧ SeenOk n S ∧ S.length ≤ 1000 ∧ (x = .lst (seenD S) ∨ x = .tup (seenD S)) ∧ (∀ c ∈ M, ClnC c) ∧ k (.bl (fitsB n s ws S l)) M
abbrev d_do_fit : DS := (sSeq (sAsg (dNewL (dCons (dV 1) dNil)) (gN 3)) (sSeq (sFor (iR1 (dCons (dCB rdMax (dCons (dLst (dCons (dI 0) (dStar (dLc (iSeq (dV 2)) (gN 5) dYes (dOp rdIx (dV 5) (dI 0)) [5]) dNil))) dNil)) dNil)) (gN 4) (sDrop (dApp (dV 3) (dCall sp_passed [] (dCons (dV 0) (dCons (dOp rdIx (dV 3) (dNeg (dI 1))) dNil)))))) (sRet (dCB rdAll (dCons (dLc (iSeq (dV 2)) (gN 5) dYes (dOp rdEq (dOp rdIx (dOp rdIx (dV 3) (dOp rdIx (dV 5) (dI 0))) (dOp rdIx (dV 5) (dI 1))) (dOp rdIx (dV 5) (dI 2))) [5]) dNil)))))
--  6 ['game', 'start', 'seen', 'rows', 'lap', 'told']
theorem pure_do_fit : ∀ ys M X P, sp_do_fit ys M X P → d_do_fit (startD 6 ys) M (bodyN M.length X P) := by
  rintro ys M X P ⟨n, s, ws, l, S, x, rfl, ok, hl, hS, hSl, hx, hM, q⟩
  have hlenS : (seenD S).length = S.length := by unfold seenD; rw [List.length_map]
  obtain ⟨f0, f1, f2⟩ := far_le hS
  unfold d_do_fit
  walk_at "ev"
  have hM1 : ∀ i, ∀ c ∈ M ++ [Cell.lst (rowsT n s ws l i)], ClnC c := fun i => clnC_app hM (rowsT_cln n s ws l i)
  have e0 : rowsT n s ws l 0 = [.tup (iL l)] := rfl
  rw [← e0]
  refine ⟨by rw [sizeLine_val]; decide, seenD S, hx, ?_⟩
  refine lc_map get0 (hM1 0) (by rw [hlenS, sizeLine_val]; omega) (fun y hy => ?_) ?_ ?_
  · obtain ⟨t, _, rfl⟩ := List.mem_map.mp hy
    exact .int _
  · intro y hy acc _ Q hQ
    obtain ⟨t, _, rfl⟩ := List.mem_map.mp hy
    try walk_at "ev"
    exact hQ
  rw [firsts]
  try walk_at "ev"
  refine ⟨by rw [List.length_map, sizeLine_val]; omega, _, 0 :: S.map (·.1), rfl, seqOf_lst _ _, by simp, _, rfl, ?_⟩
  show -2 ^ 60 ≤ farOf S ∧ farOf S < 2 ^ 60 ∧ _
  refine ⟨by omega, by omega, ?_⟩
  refine for_inv (fun i g M' => M' = M ++ [.lst (rowsT n s ws l i)] ∧ ∃ b4 b5, g = [some (.gm n s ws), some (.tup (iL l)), some x, some (.ptr M.length), b4, b5]) ⟨rfl, _, _, rfl⟩ ?_ ?_
  · rintro i y g1 M1 e ⟨rfl, b4, b5, rfl⟩
    obtain ⟨hi, rfl⟩ := rng_get _ _ _ e
    have hi : i < (farOf S).toNat := hi
    try walk_at "ev"
    refine ⟨⟨_, last_get⟩, _, seqOf_ptr last_get, _, rowsT_last n s ws l i, n, s, ws, _, rfl, ok, itP_len hl i, hM1 i, ?_⟩
    try walk_at "ev"
    refine ⟨_, last_get, by rw [rowsT_len, sizeLine_val]; omega, ?_, _, rfl⟩
    rw [last_set, rowsT_succ]
    rfl
  · rintro g1 M1 ⟨rfl, b4, b5, rfl⟩
    rw [rng_len]
    try walk_at "ev"
    refine ⟨seenD S, hx, ?_⟩
    refine lc_map (fun y => .bl (fit1 n s ws l y)) (hM1 _) (by rw [hlenS, sizeLine_val]; omega) (fun y hy => .bl _) ?_ ?_
    · intro y hy acc _ Q hQ
      obtain ⟨t, ht, rfl⟩ := List.mem_map.mp hy
      obtain ⟨t1, t2, t3, t4⟩ := hS t ht
      have h5 := f2 t ht
      try walk_at "ev"
      have hr : atD (rowsT n s ws l (farOf S).toNat) t.1 = some (.tup (iL (itP n s ws l t.1.toNat))) := by
        rw [atD_in t1]
        exact rowsT_get (by omega)
      have hln := itP_len (s := s) (ws := ws) hl t.1.toNat
      refine ⟨_, seqOf_ptr (get_app last_get), _, hr, _, seqOf_tup _ _, _, atD_vl t3 (by omega), ?_⟩
      try walk_at "ev"
      exact hQ
    · refine ⟨_, (seenD S).map (fit1 n s ws l), rfl, ?_, ?_⟩
      · rw [lstOf_lst, List.map_map]; rfl
      · rw [fit1_all]
        exact .drop rfl (Nat.le_refl _) hM (.bl _) q
theorem isSeen_ok {n : Int} {S : List (Int × Int × Int)} (h : SeenOk n S) (h0 : ∀ t ∈ S, 0 ≤ t.2.2) : ∀ d ∈ seenD S, isSeen n d = true := fun d hd => by
  obtain ⟨t, ht, rfl⟩ := List.mem_map.mp hd
  obtain ⟨t1, t2, t3, t4⟩ := h t ht
  have t5 := h0 t ht
  have e1 : isFrom (.int t.1) 0 50 = true := isFrom_i ⟨t1, t2⟩
  have e2 : isFrom (.int t.2.1) 0 (n - 1) = true := isFrom_i ⟨t3, by omega⟩
  show (isFrom (.int t.1) 0 50 && isFrom (.int t.2.1) 0 (n - 1) && true && decide (0 ≤ t.2.2)) = true
  rw [e1, e2, decide_eq_true t5]
  rfl
theorem tyOk_i (M : MS) (i : Int) : TyOk M (.int i) := ⟨by simp [tyN, tyL], fun ys e => nomatch e⟩
theorem tyOk_seen {M : MS} {S : List (Int × Int × Int)} : ∀ d ∈ seenD S, TyOk M d := fun d hd => by
  obtain ⟨t, ht, rfl⟩ := List.mem_map.mp hd
  refine ⟨by simp [tyN, tyL], fun ys e d hd => ?_⟩
  injection e with e
  subst e
  simp only [List.mem_cons, List.not_mem_nil, or_false] at hd
  rcases hd with rfl | rfl | rfl <;> simp [tyN, tyL]
theorem filter_map_rows (p : List Int → Bool) : ∀ R : List (List Int), ((rowsD R).filter fun y => p (y0 y)).map id = rowsD (R.filter p)
  | [] => rfl
  | r :: R => by
    have ih := filter_map_rows p R
    unfold rowsD at *
    rw [List.map_cons, List.filter_cons, List.filter_cons, y0_iL]
    cases p r with
    | true => rw [if_pos rfl, if_pos rfl, List.map_cons, List.map_cons, ih]; rfl
    | false => rw [if_neg (by decide), if_neg (by decide)]; exact ih
abbrev sp_fitting : DSp := fun xs M X k => ∃ n s ws m S x, xs = [.gm n s ws, .int m, x] ∧ GOk n s ws ∧ n ≤ 3 ∧ 0 ≤ m ∧ m ≤ 9 ∧ SeenOk n S ∧ (∀ t ∈ S, 0 ≤ t.2.2) ∧ S.length ≤ 1000 ∧ (x = .lst (seenD S) ∨ x = .tup (seenD S)) ∧ (∀ c ∈ M, ClnC c) ∧ k (.lst (rowsD ((rowsUp m n.toNat).filter (fitsB n s ws S)))) M
abbrev d_fitting : DS := (sSeq (sDrop (dCall sp_check_few [] (dCons (dV 0) (dCons (dV 1) dNil)))) (sSeq (sIf (dNot (dB (dCB rdIsiT (dCons (dV 2) (dCons (dTup (dCons (dC (.ty "list")) (dCons (dC (.ty "tuple")) dNil))) dNil))))) (sRaise1 "BadSeen" "index" (dC .non)) sNx) (sSeq (sFor (iEnS (dCons (dV 2) dNil)) (gT 2 (gsCons (gN 3) (gsCons (gN 4) gsNil))) (sIf (dNot (dB (dCall sp_is_seen [] (dCons (dV 0) (dCons (dV 4) dNil))))) (sRaise1 "BadSeen" "index" (dV 3)) sNx)) (sRet (dLc (iLs (dCall sp_starts_of [] (dCons (dV 0) (dCons (dV 1) dNil)))) (gN 5) (dB (dCall sp_do_fit [] (dCons (dV 0) (dCons (dV 5) (dCons (dV 2) dNil))))) (dV 5) [5])))))
--  6 ['game', 'most', 'seen', 'index', 'told', 'start']
theorem pure_fitting : ∀ ys M X P, sp_fitting ys M X P → d_fitting (startD 6 ys) M (bodyN M.length X P) := by
  rintro ys M X P ⟨n, s, ws, m, S, x, rfl, ok, hn3, hm0, hm, hS, hS0, hSl, hx, hM, q⟩
  have hlenS : (seenD S).length = S.length := by unfold seenD; rw [List.length_map]
  have hn2 := ok.n2
  unfold d_fitting
  walk_at "ev"
  have hfew : fewErr n (.int m) = none := by
    unfold fewErr
    rw [if_neg (by omega), if_pos (isFrom_i ⟨hm0, hm⟩)]
  have hty : tyN x M ∈ tyL := by rcases hx with rfl | rfl <;> simp [tyN, tyL]
  refine ⟨n, s, ws, _, rfl, tyOk_i M m, fun e he => (by rw [hfew] at he; cases he), fun _ => ?_⟩
  try walk_at "ev"
  refine ⟨by rw [sizeLine_val]; decide, ["list", "tuple"], rfl, hty, by simp [tyL], ?_⟩
  have e1 : (["list", "tuple"].any fun n => isB (tyN x M) n) = true := by rcases hx with rfl | rfl <;> rfl
  rw [e1]
  try walk_at "ev"
  refine ⟨seenD S, hx, ?_⟩
  refine for_inv (fun i g M' => M' = M ∧ ∃ a b, g = [some (.gm n s ws), some (.int m), some x, a, b, none]) ⟨rfl, _, _, rfl⟩ ?_ ?_
  · rintro i y g1 M1 ee ⟨rfl, a, b, rfl⟩
    obtain ⟨d, ed, rfl⟩ := enumD_inv ee
    have hd := List.mem_of_getElem? ed
    try walk_at "ev"
    refine ⟨n, s, ws, d, rfl, tyOk_seen d hd, ?_⟩
    rw [isSeen_ok hS hS0 d hd]
    try walk_at "ev"
    exact ⟨_, rfl⟩
  · rintro g1 M1 ⟨rfl, a, b, rfl⟩
    try walk_at "ev"
    refine ⟨n, s, ws, m, rfl, by omega, hn3, hm0, hm, hM, ?_⟩
    try walk_at "ev"
    have hlen := rowsUp_len m n.toNat
    have hp : (m + 1).toNat ^ n.toNat ≤ 1000 := by
      have h1 : (m + 1).toNat ^ n.toNat ≤ 10 ^ n.toNat := Nat.pow_le_pow_left (by omega) _
      have h2 : 10 ^ n.toNat ≤ 10 ^ 3 := Nat.pow_le_pow_right (by decide) (by omega)
      omega
    refine lc_filter (fun y => fitsB n s ws S (y0 y)) id hM (by rw [rowsD_len, sizeLine_val]; omega) (fun y hy => ?_) ?_ ?_
    · obtain ⟨r, _, rfl⟩ := List.mem_map.mp hy
      exact cln_tL r
    · intro y hy acc hacc Q R h1 h2
      obtain ⟨r, hr, rfl⟩ := List.mem_map.mp hy
      rw [y0_iL] at h1 h2
      have hr2 := (rowsUp_mem hr).1
      try walk_at "ev"
      refine ⟨n, s, ws, r, S, x, rfl, ok, by omega, hS, hSl, hx, clnC_app hM hacc, ?_⟩
      cases ef : fitsB n s ws S r with
      | true =>
        try walk_at "ev"
        exact h1 ef
      | false =>
        try walk_at "ev"
        exact h2 ef
    · rw [filter_map_rows]
      exact .same q
end Sw

namespace Sw
open PySem PySem.Spec PyProof.Rows L2 PD
local macro_rules | `(tactic| walk_at "ev") => `(tactic| simp only [sSeq, sAsg, sRet, sRetN, sIf, sDrop, sNx, sPar, sPar3, gN, gT, gsCons, gsNil, dV, dC, dI, dOp, dUn, dCh, dB, dAnd, dOr, dNot, dAndV, dOrV, dNotV, dIf, dNil, dCons, dTup, dLst, dCB, dCall, dSetLen, sTry, hdlD, dkRun, dkCls, dI0, dI2, rdLen, rdIsi, rdIsiT, rdIx, dGet_eq, rdGet_size, rdGet_share, rdGet_ways,
  sFor_eq, dLc_eq, iTp, iLs, iSc, iR1, iR2, iEnT, iEnL, iEnS, wipeD_nil, wipeD_cons, sOpen, dShut, sBrk, sCnt, sNever, dNeg, dPart, dNoPart, dSl, sAug, sSetL, dApp, dPopAt, dNewL, dNewCat, dToRng, sPut, dMake, finG, sRaise0, sRaise1, sFrz, dNewRep, dNewList, dPop, dStar, dUn,
  rdEq_i, rdNe_i, sI_2, ixN_0, ixN_1, Cell.lst.injEq, rdInt_i, rdInt_b, rdAbs_i, rdMax2_i, eqD_int, eqOk_int, cellD_int, eqD_bl, eqOk_bl, cellD_bl, eqOk_non, seqOf_lst, seqOf_tup, lstOf_lst, atD_0, atD_1, atD_2, List.set_set, cellD_lst, cellD_tup, iL_cons, iL_nil, iL_len,
  startD, bodyN, List.map_cons, List.map_nil, List.length_cons, List.length_nil, List.replicate_succ, List.replicate_zero, List.cons_append, List.nil_append, List.append_nil, List.getElem?_cons_zero, List.getElem?_cons_succ, List.set_cons_zero, List.set_cons_succ, Nat.reduceSub, Nat.reduceAdd, Nat.zero_add,
  Option.some.injEq, exists_eq_left', exists_eq_left, D.int.injEq, D.bl.injEq, D.lst.injEq, D.tup.injEq, D.str.injEq, D.ptr.injEq, D.scr.injEq, D.gm.injEq, List.cons.injEq, and_true, true_and, exists_and_left, exists_and_right, D.ty.injEq, and_assoc, ↓reduceIte, eq_self, Bool.not_true, Bool.not_false, Bool.false_eq_true, decide_true, decide_false])
/-! SwQ: == of a thing with itself; == of games. -/
theorem eqv_refl {n : Nat} {x : D} (h : Pz n x) : PyData.eqv x.py x.py = true := by
  have all : ∀ xs : List D, (∀ x ∈ xs, PyData.eqv x.py x.py = true) → PyData.eqvAll (D.pys xs) (D.pys xs) = true := fun xs => by
    induction xs with
    | nil => intro _; rfl
    | cons x xs ih =>
      intro h
      show (PyData.eqv x.py x.py && PyData.eqvAll (D.pys xs) (D.pys xs)) = true
      rw [h x List.mem_cons_self, ih fun y hy => h y (List.mem_cons_of_mem _ hy)]
      rfl
  induction h with
  | non n => rfl
  | bl n b => cases b <;> rfl
  | int n i => have := eqD_int i i; rw [decide_eq_true rfl] at this; exact this
  | str n s _ => have := eqD_str s s; rw [decide_eq_true rfl] at this; exact this
  | lst n xs _ _ ih => exact all xs ih
  | tup n xs _ _ ih => exact all xs ih
theorem rdNe_refl {n : Nat} {x : D} (h : Pz n x) (hn : n ≤ 30) {M : MS} {k : D → Prop} (q : k (.bl false)) : rdNe x x M k := by
  refine ⟨eqOkOf h.pl hn, eqOkOf h.pl hn, ?_⟩
  rw [h.cell]
  unfold eqD
  rw [eqv_refl h]
  exact q
theorem rdEq_refl {n : Nat} {x : D} (h : Pz n x) (hn : n ≤ 30) {M : MS} {k : D → Prop} (q : k (.bl true)) : rdEq x x M k := by
  refine ⟨eqOkOf h.pl hn, eqOkOf h.pl hn, ?_⟩
  rw [h.cell]
  unfold eqD
  rw [eqv_refl h]
  exact q
theorem rdEq_zk {n : Nat} {x y : D} (hx : Pz n x) (hy : Pz n y) (hn : n ≤ 30) {M : MS} {k : D → Prop} (q : k (.bl (eqD x y))) : rdEq x y M k := by
  rw [rdEq_z hx hy hn]
  exact q
theorem rdNe_bk {a b : Bool} {M : MS} {k : D → Prop} (q : k (.bl (!decide (a = b)))) : rdNe (.bl a) (.bl b) M k := by
  rw [rdNe_b]
  exact q
theorem rdNe_F {a : Int} {M : MS} {k : D → Prop} (q : k (.bl false)) : rdNe (.int a) (.int a) M k := by
  rw [rdNe_i, decide_eq_true rfl]
  exact q
abbrev d_Game_eq : DS := (sSeq (sIf (dNot (dB (dCB rdIsiG (dCons (dV 1) (dCons (dC .gcl) dNil))))) (sRet (dC (.bl false))) sNx) (sRet (dAndV (dOp rdEq (dGet "size" (dV 0)) (dGet "size" (dV 1))) (dAndV (dOp rdEq (dGet "share" (dV 0)) (dGet "share" (dV 1))) (dOp rdEq (dGet "ways" (dV 0)) (dGet "ways" (dV 1)))))))
--  2 ['self', 'other']
theorem pure_Game_eq : ∀ ys M X P, sp_Game_eq ys M X P → d_Game_eq (startD 2 ys) M (bodyN M.length X P) := by
  rintro ys M X P ⟨n, s, ws, y, rfl, ga, q⟩
  unfold d_Game_eq
  walk_at "ev"
  refine ⟨y, rfl, ga, isGm y, rfl, ?_⟩
  rcases ga with h | ⟨n2, s2, ws2, rfl⟩
  · have hb : isGm y = false ∧ gmEq n s ws y = false := by
      cases y with
      | gm a b c => exact absurd h (by simp [tyN, tyL])
      | _ => exact ⟨rfl, rfl⟩
    rw [hb.1, if_pos (by decide)]
    rw [hb.2] at q
    exact .same q
  · rw [show isGm (.gm n2 s2 ws2) = true from rfl, if_neg (by decide), rdGet_size, rdEq_i]
    have q : P (.bl (decide (n = n2) && decide (s = s2) && decide (ws = ws2))) M := q
    refine ⟨_, rfl, ?_⟩
    by_cases h1 : n = n2
    · rw [decide_eq_true h1] at q ⊢
      rw [if_pos rfl, rdGet_share, rdEq_i]
      refine ⟨_, rfl, ?_⟩
      by_cases h2 : s = s2
      · rw [decide_eq_true h2] at q ⊢
        rw [if_pos rfl, rdGet_ways]
        exact rdEq_t _ _ _ _ (.same q)
      · rw [decide_eq_false h2] at q ⊢
        rw [if_neg (by decide)]
        exact .same q
    · rw [decide_eq_false h1] at q ⊢
      rw [if_neg (by decide)]
      exact .same q
end Sw

--EVX dNewDic dDGet2 sDPutD rdSortX rdListC dDix
namespace Sw
open PySem PySem.Spec PyProof.Rows L2 PD
local macro_rules | `(tactic| walk_at "ev") => `(tactic| simp only [sSeq, sAsg, sRet, sRetN, sIf, sDrop, sNx, sPar, sPar3, gN, gT, gsCons, gsNil, dV, dC, dI, dOp, dUn, dCh, dB, dAnd, dOr, dNot, dAndV, dOrV, dNotV, dIf, dNil, dCons, dTup, dLst, dCB, dCall, dSetLen, sTry, hdlD, dkRun, dkCls, dI0, dI2, rdLen, rdIsi, rdIsiT, rdIx, dGet_eq, rdGet_size, rdGet_share, rdGet_ways,
  sFor_eq, dLc_eq, iTp, iLs, iSc, iR1, iR2, iEnT, iEnL, iEnS, wipeD_nil, wipeD_cons, sOpen, dShut, sBrk, sCnt, sNever, dNeg, dPart, dNoPart, dSl, sAug, sSetL, dApp, dPopAt, dNewL, dNewCat, dToRng, sPut, dMake, finG, sRaise0, sRaise1, sFrz, dNewRep, dNewDic, dDGet2, sDPutD, rdSortX, rdListC, dDix, dNewList, dPop, dStar, dUn,
  rdEq_i, rdNe_i, sI_2, ixN_0, ixN_1, Cell.lst.injEq, rdInt_i, rdInt_b, rdAbs_i, rdMax2_i, eqD_int, eqOk_int, cellD_int, eqD_bl, eqOk_bl, cellD_bl, eqOk_non, seqOf_lst, seqOf_tup, lstOf_lst, atD_0, atD_1, atD_2, List.set_set, cellD_lst, cellD_tup, iL_cons, iL_nil, iL_len,
  startD, bodyN, List.map_cons, List.map_nil, List.length_cons, List.length_nil, List.replicate_succ, List.replicate_zero, List.cons_append, List.nil_append, List.append_nil, List.getElem?_cons_zero, List.getElem?_cons_succ, List.set_cons_zero, List.set_cons_succ, Nat.reduceSub, Nat.reduceAdd, Nat.zero_add,
  Option.some.injEq, exists_eq_left', exists_eq_left, D.int.injEq, D.bl.injEq, D.lst.injEq, D.tup.injEq, D.str.injEq, D.ptr.injEq, D.scr.injEq, D.gm.injEq, List.cons.injEq, and_true, true_and, exists_and_left, exists_and_right, D.ty.injEq, and_assoc, ↓reduceIte, eq_self, Bool.not_true, Bool.not_false, Bool.false_eq_true, decide_true, decide_false])
/-! SwCa: counted. -/
/-- the counts of the first things -/
structure Cnt (L : List (List Int)) (kvs : List (List Int × Int)) : Prop where
  nd : (kvs.map (·.1)).Nodup
  mem : ∀ u, u ∈ kvs.map (·.1) ↔ u ∈ L
  val : ∀ p ∈ kvs, p.2 = (L.count p.1 : Int)
theorem Cnt.nil : Cnt [] [] := ⟨List.nodup_nil, fun u => Iff.rfl, fun p hp => absurd hp List.not_mem_nil⟩
theorem Cnt.get {L : List (List Int)} {kvs : List (List Int × Int)} (h : Cnt L kvs) (u : List Int) : getC kvs u = if u ∈ L then some (L.count u : Int) else none := by
  unfold getC
  cases e : kvs.find? (fun p => decide (p.1 = u)) with
  | none =>
    rw [if_neg]
    · rfl
    intro hu
    obtain ⟨p, hp, rfl⟩ := List.mem_map.mp ((h.mem u).mpr hu)
    have := List.find?_eq_none.mp e p hp
    simp at this
  | some p =>
    have hp := List.mem_of_find?_eq_some e
    have hq : p.1 = u := by simpa using List.find?_some e
    rw [if_pos ((h.mem u).mp (hq ▸ List.mem_map.mpr ⟨p, hp, rfl⟩))]
    show some p.2 = _
    rw [h.val p hp, hq]
theorem Cnt.put {L : List (List Int)} {kvs : List (List Int × Int)} (h : Cnt L kvs) (u : List Int) : Cnt (L ++ [u]) (putC kvs u ((getC kvs u).getD 0 + 1)) := by
  have hg := h.get u
  unfold putC
  by_cases hu : u ∈ L
  · have ha : (kvs.any fun p => decide (p.1 = u)) = true := by
      obtain ⟨p, hp, e⟩ := List.mem_map.mp ((h.mem u).mpr hu)
      exact List.any_eq_true.mpr ⟨p, hp, decide_eq_true e⟩
    rw [if_pos ha]
    rw [if_pos hu] at hg
    rw [hg]
    have hk : (kvs.map fun p => if p.1 = u then (p.1, (some (L.count u : Int)).getD 0 + 1) else p).map (·.1) = kvs.map (·.1) := by
      rw [List.map_map]
      refine List.map_congr_left fun p _ => ?_
      show (if p.1 = u then (p.1, (some (L.count u : Int)).getD 0 + 1) else p).1 = p.1
      split <;> rfl
    refine ⟨by rw [hk]; exact h.nd, fun v => ?_, fun p hp => ?_⟩
    · rw [hk, h.mem, List.mem_append, List.mem_singleton]
      constructor
      · exact .inl
      · rintro (q | rfl)
        · exact q
        · exact hu
    · obtain ⟨q, hq, rfl⟩ := List.mem_map.mp hp
      by_cases e : q.1 = u
      · rw [if_pos e]
        show (some (L.count u : Int)).getD 0 + 1 = _
        rw [List.count_append, e]
        simp
      · have z : List.count q.1 [u] = 0 := List.count_eq_zero.mpr (by rw [List.mem_singleton]; exact e)
        rw [if_neg e, h.val q hq, List.count_append, z, Nat.add_zero]
  · have ha : ¬ (kvs.any fun p => decide (p.1 = u)) = true := fun z => by
      obtain ⟨p, hp, e⟩ := List.any_eq_true.mp z
      exact hu ((h.mem u).mp (List.mem_map.mpr ⟨p, hp, of_decide_eq_true e⟩))
    rw [if_neg ha]
    rw [if_neg hu] at hg
    rw [hg]
    refine ⟨?_, fun v => ?_, fun p hp => ?_⟩
    · rw [List.map_append]
      refine List.nodup_append.mpr ⟨h.nd, by simp, fun a ha' b hb e => ?_⟩
      rw [List.mem_map] at hb
      obtain ⟨q, hq, rfl⟩ := hb
      rw [List.mem_singleton] at hq
      subst hq
      subst e
      exact hu ((h.mem _).mp ha')
    · rw [List.map_append, List.mem_append, List.mem_append, h.mem]
      simp
    · rcases List.mem_append.mp hp with q | q
      · rw [h.val p q, List.count_append]
        have hpu : p.1 ≠ u := fun e => hu ((h.mem u).mp (e ▸ List.mem_map.mpr ⟨p, q, rfl⟩))
        have z : List.count p.1 [u] = 0 := List.count_eq_zero.mpr (by rw [List.mem_singleton]; exact hpu)
        rw [z, Nat.add_zero]
      · rw [List.mem_singleton.mp q]
        show (none : Option Int).getD 0 + 1 = _
        rw [List.count_append, List.count_eq_zero.mpr hu]
        simp
theorem nodup_le {α : Type} [DecidableEq α] : ∀ {l D : List α}, l.Nodup → (∀ x ∈ l, x ∈ D) → l.length ≤ D.length
  | [], _, _, _ => Nat.zero_le _
  | a :: l, D, h, hs => by
    obtain ⟨h1, h2⟩ := List.nodup_cons.mp h
    have ha := hs a List.mem_cons_self
    have := nodup_le (D := D.erase a) h2 fun x hx => (List.mem_erase_of_ne (fun (e : x = a) => h1 (e ▸ hx))).mpr (hs x (List.mem_cons_of_mem _ hx))
    rw [List.length_erase_of_mem ha] at this
    have := List.length_pos_of_mem ha
    rw [List.length_cons]
    omega
theorem Cnt.len {L D : List (List Int)} {kvs : List (List Int × Int)} (h : Cnt L kvs) (hs : ∀ u ∈ L, u ∈ D) : kvs.length ≤ D.length := by
  have := nodup_le h.nd fun u hu => hs u ((h.mem u).mp hu)
  rwa [List.length_map] at this
def kOf : D → List Int
  | .tup xs => xs.map intD
  | .int i => [i]
  | _ => []
theorem kOf_kD {t : Bool} {u : List Int} (h : t = false → u.length = 1) : kOf (kD t u) = u := by
  cases t with
  | true =>
    show (iL u).map intD = u
    unfold iL
    rw [List.map_map]
    exact List.map_id _
  | false =>
    obtain ⟨x, rfl⟩ := List.length_eq_one_iff.mp (h rfl)
    rfl
theorem kD_cln (t : Bool) (u : List Int) : Cln (kD t u) := by
  cases t with
  | true => exact cln_tL u
  | false => exact .int _
def cntD (t : Bool) (ks us : List (List Int)) : List D := us.map fun u => .tup [kD t u, .int (ks.count u : Int)]
theorem cntD_cln (t : Bool) (ks us : List (List Int)) : ∀ d ∈ cntD t ks us, Cln d := fun d hd => by
  obtain ⟨u, _, rfl⟩ := List.mem_map.mp hd
  refine .tup fun d hd => ?_
  rcases List.mem_cons.mp hd with h | h
  · subst h; exact kD_cln t u
  · rw [List.mem_singleton.mp h]; exact .int _
abbrev sp_counted : DSp := fun xs M X q => ∃ (t : Bool) (ks Dl : List (List Int)) (d : Nat) (B : Int), xs = [.lst (ks.map (kD t))] ∧ (t = false → d = 1) ∧ 1 ≤ d ∧ (∀ u ∈ ks, u.length = d ∧ TS.Bd B u) ∧ (∀ u ∈ ks, u ∈ Dl) ∧ Dl.length < 64 ∧ (∀ c ∈ M, ClnC c) ∧
  ∀ us : List (List Int), us.Nodup → (∀ u, u ∈ us ↔ u ∈ ks) → us.Pairwise (fun u v => TS.code B u ≤ TS.code B v) → q (.lst (cntD t ks us)) M
abbrev d_counted : DS := (sSeq (sAsg dNewDic (gN 1)) (sSeq (sFor (iLs (dV 0)) (gN 2) (sDPutD (dOp rdAdd (dDGet2 (dV 1) (dV 2) (dI 0)) (dI 1)) (dV 1) (dV 2))) (sRet (dLc (iLs (dCB rdSortX (dCons (dCB rdListC (dCons (dV 1) dNil)) dNil))) (gN 2) dYes (dTup (dCons (dV 2) (dCons (dDix (dV 1) (dV 2)) dNil))) [2]))))
--  3 ['things', 'found', 'thing']
theorem pure_counted : ∀ ys M X P, sp_counted ys M X P → d_counted (startD 3 ys) M (bodyN M.length X P) := by
  rintro ys M X P ⟨t, ks, Dl, d, B, rfl, ht, hd, hB, hDl, hDn, hM, q⟩
  unfold d_counted
  walk_at "ev"
  refine ⟨t, ?_⟩
  refine for_inv (fun i g M' => ∃ kvs a2, M' = M ++ [.dic t kvs] ∧ Cnt (ks.take i) kvs ∧ g = [some (.lst (ks.map (kD t))), some (.ptr M.length), a2]) ⟨[], none, rfl, Cnt.nil, rfl⟩ ?_ ?_
  · rintro i y g1 M1 e ⟨kvs, a2, rfl, hc, rfl⟩
    obtain ⟨u, hu, rfl⟩ : ∃ u, ks[i]? = some u ∧ y = kD t u := by
      rw [List.getElem?_map] at e
      cases h : ks[i]? with
      | none => rw [h] at e; cases e
      | some u => rw [h] at e; cases e; exact ⟨u, rfl, rfl⟩
    have one : OneK t kvs u := fun h => ⟨by rw [(hB u (List.mem_of_getElem? hu)).1, ht h], fun p hp => by
      have := (hc.mem p.1).mp (List.mem_map.mpr ⟨p, hp, rfl⟩)
      rw [(hB p.1 (List.mem_of_mem_take this)).1, ht h]⟩
    have hlen : kvs.length ≤ Dl.length := hc.len fun u hu => hDl u (List.mem_of_mem_take hu)
    try walk_at "ev"
    refine ⟨⟨_, _, last_get⟩, t, kvs, last_get, u, rfl, one, t, kvs, last_get, u, rfl, one, by rw [sizeLine_val]; omega, _, by rw [last_set], ?_, _, rfl⟩
    rw [List.take_add_one, hu]
    exact hc.put u
  · rintro g1 M1 ⟨kvs, a2, rfl, hc, rfl⟩
    rw [List.length_map, List.take_length] at hc
    have hlen : kvs.length ≤ Dl.length := hc.len hDl
    have one : ∀ u ∈ ks, OneK t kvs u := fun u hu h => ⟨by rw [(hB u hu).1, ht h], fun p hp => by
      have := (hc.mem p.1).mp (List.mem_map.mpr ⟨p, hp, rfl⟩)
      rw [(hB p.1 this).1, ht h]⟩
    try walk_at "ev"
    refine ⟨t, kvs, last_get, t, kvs.map (·.1), by rw [List.map_map]; rfl, by rw [List.length_map]; omega, d, ht, hd, B, fun u hu => hB u ((hc.mem u).mp hu), fun us pm pw => ?_⟩
    have hnd : us.Nodup := pm.nodup_iff.mpr hc.nd
    have hmem : ∀ u, u ∈ us ↔ u ∈ ks := fun u => by rw [pm.mem_iff]; exact hc.mem u
    have hM1 : ∀ c ∈ M ++ [Cell.dic t kvs], ClnC c := clnC_app hM trivial
    refine lc_map (fun y => .tup [y, .int (ks.count (kOf y) : Int)]) hM1 (by rw [List.length_map, pm.length_eq, List.length_map, sizeLine_val]; omega) (fun y hy => ?_) ?_ ?_
    · obtain ⟨u, _, rfl⟩ := List.mem_map.mp hy
      refine .tup fun d hd => ?_
      rcases List.mem_cons.mp hd with h | h
      · subst h; exact kD_cln t u
      · rw [List.mem_singleton.mp h]; exact .int _
    · intro y hy acc _ Q hQ
      obtain ⟨u, hu, rfl⟩ := List.mem_map.mp hy
      have huk := (hmem u).mp hu
      try walk_at "ev"
      refine ⟨t, kvs, get_app last_get, u, rfl, one u huk, _, by rw [hc.get, if_pos huk], by rw [sizeLine_val]; decide, ?_⟩
      rw [kOf_kD fun h => by rw [(hB u huk).1, ht h]] at hQ
      exact hQ
    · have e : (us.map (kD t)).map (fun y => .tup [y, .int (ks.count (kOf y) : Int)]) = cntD t ks us := by
        unfold cntD
        rw [List.map_map]
        refine List.map_congr_left fun u hu => ?_
        show D.tup [kD t u, .int (ks.count (kOf (kD t u)) : Int)] = _
        rw [kOf_kD fun h => by rw [(hB u ((hmem u).mp hu)).1, ht h]]
      rw [e]
      exact .drop rfl (Nat.le_refl _) hM (.lst (cntD_cln t ks us)) (q us hnd hmem pw)
end Sw

--EVX dNewDic dDGet2 sDPutD rdSortX rdListC dDix
namespace Sw
open PySem PySem.Spec PyProof.Rows L2 PD
local macro_rules | `(tactic| walk_at "ev") => `(tactic| simp only [sSeq, sAsg, sRet, sRetN, sIf, sDrop, sNx, sPar, sPar3, gN, gT, gsCons, gsNil, dV, dC, dI, dOp, dUn, dCh, dB, dAnd, dOr, dNot, dAndV, dOrV, dNotV, dIf, dNil, dCons, dTup, dLst, dCB, dCall, dSetLen, sTry, hdlD, dkRun, dkCls, dI0, dI2, rdLen, rdIsi, rdIsiT, rdIx, dGet_eq, rdGet_size, rdGet_share, rdGet_ways,
  sFor_eq, dLc_eq, iTp, iLs, iSc, iR1, iR2, iEnT, iEnL, iEnS, wipeD_nil, wipeD_cons, sOpen, dShut, sBrk, sCnt, sNever, dNeg, dPart, dNoPart, dSl, sAug, sSetL, dApp, dPopAt, dNewL, dNewCat, dToRng, sPut, dMake, finG, sRaise0, sRaise1, sFrz, dNewRep, dNewDic, dDGet2, sDPutD, rdSortX, rdListC, dDix, dNewList, dPop, dStar, dUn,
  rdEq_i, rdNe_i, sI_2, ixN_0, ixN_1, Cell.lst.injEq, rdInt_i, rdInt_b, rdAbs_i, rdMax2_i, eqD_int, eqOk_int, cellD_int, eqD_bl, eqOk_bl, cellD_bl, eqOk_non, seqOf_lst, seqOf_tup, lstOf_lst, atD_0, atD_1, atD_2, List.set_set, cellD_lst, cellD_tup, iL_cons, iL_nil, iL_len,
  startD, bodyN, List.map_cons, List.map_nil, List.length_cons, List.length_nil, List.replicate_succ, List.replicate_zero, List.cons_append, List.nil_append, List.append_nil, List.getElem?_cons_zero, List.getElem?_cons_succ, List.set_cons_zero, List.set_cons_succ, Nat.reduceSub, Nat.reduceAdd, Nat.zero_add,
  Option.some.injEq, exists_eq_left', exists_eq_left, D.int.injEq, D.bl.injEq, D.lst.injEq, D.tup.injEq, D.str.injEq, D.ptr.injEq, D.scr.injEq, D.gm.injEq, List.cons.injEq, and_true, true_and, exists_and_left, exists_and_right, D.ty.injEq, and_assoc, ↓reduceIte, eq_self, Bool.not_true, Bool.not_false, Bool.false_eq_true, decide_true, decide_false])
/-! SwCb: the ends of all starts of few children. -/
/-- the rounds until nothing changes, and the row then -/
def endR (n s : Int) (ws : List Int) : Nat → List Int → Nat × List Int
  | 0, l => (0, l)
  | k + 1, l => if passL n s ws l = l then (0, l) else ((endR n s ws k (passL n s ws l)).1 + 1, (endR n s ws k (passL n s ws l)).2)
section
variable {n s : Int} {ws l : List Int}
theorem it_first (t : Nat) : itP n s ws (passL n s ws l) t = itP n s ws l (t + 1) := by
  have := it_plus (n := n) (s := s) (ws := ws) (l := l) 1 t
  rw [show itP n s ws l 1 = passL n s ws l from rfl] at this
  rw [this, Nat.add_comm]
theorem endR_of : ∀ (T k : Nat) (l : List Int), itP n s ws l (T + 1) = itP n s ws l T → (∀ t, t < T → itP n s ws l (t + 1) ≠ itP n s ws l t) → T < k → endR n s ws k l = (T, itP n s ws l T)
  | _, 0, _, _, _, h => absurd h (Nat.not_lt_zero _)
  | 0, k + 1, l, h, _, _ => by
    rw [endR, if_pos (show passL n s ws l = l from h)]
    rfl
  | T + 1, k + 1, l, h, hlt, hk => by
    have h0 : ¬ passL n s ws l = l := hlt 0 (by omega)
    have ih := endR_of T k (passL n s ws l) (by rw [it_first, it_first]; exact h) (fun t ht => by rw [it_first, it_first]; exact hlt (t + 1) (by omega)) (by omega)
    rw [endR, if_neg h0, ih, it_first]
theorem g_one (ok : GOk n s ws) (h3 : n ≤ 3) : gW n ws = 1 := by
  obtain ⟨h1, h2, h4, h5⟩ := gW_dvd ok
  have hl1 := ok.l1
  have hn2 := ok.n2
  obtain ⟨w, r, rfl⟩ : ∃ w r, ws = w :: r := by
    cases ws with
    | nil => simp at hl1
    | cons w r => exact ⟨w, r, rfl⟩
  have hw := ok.w w (by simp)
  have hd := h2 w (by simp)
  have q1 := Int.le_of_dvd (by omega) hd
  have hg : gW n (w :: r) = 1 ∨ gW n (w :: r) = 2 := by omega
  rcases hg with h | h
  · exact h
  · exfalso
    rw [h] at h1 hd
    have : n = 3 := by omega
    have h6 : w = 2 := by omega
    obtain ⟨c, hc⟩ := h1
    omega
/-- a row that stands still is of one number -/
theorem still_one (ok : GOk n s ws) (h3 : n ≤ 3) (hl : (l.length : Int) = n) (h : passL n s ws l = l) : l = List.replicate n.toNat (s * un s l 0) := by
  have hn2 := ok.n2
  have hs2 := ok.s2
  obtain ⟨h1, h2⟩ := (still_iff ok hl).mp h
  rw [g_one ok h3] at h1
  have hv : ∀ x, 0 ≤ x → x < n → vl l x = s * un s l 0 := fun x x0 x1 => by
    rw [h1 x 0 x0 x1 (by omega) (by omega) (by simp)]
    have e := un_eq hs2 l 0
    have m0 := h2 0 (by omega) (by omega)
    have f : fillN s (vl l 0) = vl l 0 := by
      have := fill_ge hs2 (vl l 0)
      obtain ⟨c, hc⟩ := Int.dvd_of_emod_eq_zero m0
      unfold fillN
      rw [hc]
      have e2 : (s * c + s - 1) / s = c := by
        rw [show s * c + s - 1 = (s - 1) + s * c by omega, Int.add_mul_ediv_left _ _ (by omega), Int.ediv_eq_zero_of_lt (by omega) (by omega), Int.zero_add]
      rw [e2, Int.mul_comm]
    rw [Int.mul_comm, e, f]
  refine vl_ext (by rw [List.length_replicate]; omega) fun x x0 x1 => ?_
  rw [hv x x0 (by omega)]
  unfold vl
  rw [List.getD_eq_getElem?_getD, List.getElem?_replicate, if_pos (by omega)]
  rfl
theorem un_small (ok : GOk n s ws) (hb : ∀ x ∈ l, 0 ≤ x ∧ x ≤ 9) (x : Int) : 0 ≤ un s l x ∧ un s l x ≤ 5 := by
  have hs2 := ok.s2
  have h0 : 0 ≤ vl l x ∧ vl l x ≤ 9 := by
    unfold vl
    rw [List.getD_eq_getElem?_getD]
    cases e : l[x.toNat]? with
    | none => exact ⟨Int.le_refl _, by decide⟩
    | some y => exact hb y (List.mem_of_getElem? e)
  have e := un_eq hs2 l x
  have f := fill_ge hs2 (vl l x)
  rw [← e] at f
  refine ⟨?_, ?_⟩
  · refine Int.not_lt.mp fun h => ?_
    have : un s l x * s ≤ -1 * s := Int.mul_le_mul_of_nonneg_right (by omega) (by omega)
    omega
  · refine Int.not_lt.mp fun h => ?_
    have : 6 * s ≤ un s l x * s := Int.mul_le_mul_of_nonneg_right (by omega) (by omega)
    omega
theorem least_of {p : Nat → Prop} : ∀ N, p N → ∃ T, T ≤ N ∧ p T ∧ ∀ t, t < T → ¬ p t := by
  intro N
  induction N using Nat.strongRecOn with
  | _ N ih =>
    intro h
    by_cases hx : ∃ t, t < N ∧ p t
    · obtain ⟨t, ht, hp⟩ := hx
      obtain ⟨T, h1, h2, h3⟩ := ih t ht hp
      exact ⟨T, by omega, h2, h3⟩
    · exact ⟨N, Nat.le_refl _, h, fun t ht hp => hx ⟨t, ht, hp⟩⟩
theorem few_end (ok : GOk n s ws) (h3 : n ≤ 3) (hl : (l.length : Int) = n) (hb : ∀ x ∈ l, 0 ≤ x ∧ x ≤ 9) : ∃ T, T ≤ 24 ∧ itP n s ws l (T + 1) = itP n s ws l T ∧ ∀ t, t < T → itP n s ws l (t + 1) ≠ itP n s ws l t := by
  have hg := g_one ok h3
  have hn2 := ok.n2
  have hmu : mu n s ws l 0 ≤ 23 := by
    have hne : (rgs n ws 0).map (un s l) ≠ [] := fun e => by
      have h0 : (0 : Int) ∈ rgs n ws 0 := mem_rgs.mpr ⟨by omega, by omega, by simp⟩
      rw [List.map_eq_nil_iff] at e
      rw [e] at h0
      cases h0
    obtain ⟨x, _, hx⟩ := List.mem_map.mp (lmax_mem hne)
    obtain ⟨y, _, hy⟩ := List.mem_map.mp (lmin_mem hne)
    have q1 := un_small (s := s) ok hb x
    have q2 := un_small (s := s) ok hb y
    have q3 := List.length_filter_le (fun x => decide (un s l x = lmin ((rgs n ws 0).map (un s l)))) (rgs n ws 0)
    have q4 := rgs_len (n := n) (ws := ws) (f := 0)
    unfold mu
    have h5 : (lmax ((rgs n ws 0).map (un s l)) - lmin ((rgs n ws 0).map (un s l))).toNat ≤ 5 := by omega
    have h6 : (lmax ((rgs n ws 0).map (un s l)) - lmin ((rgs n ws 0).map (un s l))).toNat * (n.toNat + 1) ≤ 5 * 4 := Nat.mul_le_mul h5 (by omega)
    omega
  obtain ⟨T, _, hT, hc⟩ := ring_ends (f := 0) ok hl (by rw [hg]; decide) 23 0 hmu
  have hs := cst_still ok (itP_len hl T) fun f hf => by
    have : f = 0 := by omega
    rw [this]
    exact hc
  obtain ⟨T', h1, h2, h3⟩ := least_of (p := fun T => itP n s ws l (T + 1) = itP n s ws l T) (T + 1) hs
  exact ⟨T', by omega, h2, h3⟩
/-- the end of a start -/
def endV (n s : Int) (ws l : List Int) : List Int := (endR n s ws 64 l).2
def endT (n s : Int) (ws l : List Int) : Nat := (endR n s ws 64 l).1
theorem few_of (ok : GOk n s ws) (h3 : n ≤ 3) (hl : (l.length : Int) = n) (hb : ∀ x ∈ l, 0 ≤ x ∧ x ≤ 9) : endT n s ws l ≤ 24 ∧ endV n s ws l = itP n s ws l (endT n s ws l) ∧ itP n s ws l (endT n s ws l + 1) = itP n s ws l (endT n s ws l) ∧ ∀ t, t < endT n s ws l → itP n s ws l (t + 1) ≠ itP n s ws l t := by
  obtain ⟨T, h1, h2, h4⟩ := few_end ok h3 hl hb
  have e := endR_of T 64 l h2 h4 (by omega)
  have eT : endT n s ws l = T := congrArg Prod.fst e
  have eV : endV n s ws l = itP n s ws l T := congrArg Prod.snd e
  rw [eT, eV]
  exact ⟨h1, rfl, h2, h4⟩
def endsL (n s : Int) : List (List Int) := (List.range 6).map fun (u : Nat) => List.replicate n.toNat (s * (u : Int))
theorem endV_ok (ok : GOk n s ws) (h3 : n ≤ 3) (hl : (l.length : Int) = n) (hb : ∀ x ∈ l, 0 ≤ x ∧ x ≤ 9) : (endV n s ws l).length = n.toNat ∧ TS.Bd (10 ^ 30 + 1) (endV n s ws l) ∧ endV n s ws l ∈ endsL n s := by
  obtain ⟨h1, h2, h4, _⟩ := few_of ok h3 hl hb
  have hn2 := ok.n2
  have sok := it_ok ok (B := 9) ⟨hl, hb⟩ (by decide) (endT n s ws l)
  rw [← h2] at sok h4
  have h4 : passL n s ws (endV n s ws l) = endV n s ws l := by
    have e : itP n s ws l (endT n s ws l + 1) = passL n s ws (itP n s ws l (endT n s ws l)) := rfl
    rw [h2, ← e, h4, h2]
  refine ⟨by have := sok.1; omega, fun x hx => by have := sok.2 x hx; omega, ?_⟩
  have hu := un_all ok hl (m := 0) (M := 5) (fun y _ _ => un_small ok hb y) (endT n s ws l) (x := 0) (by omega) (by omega)
  rw [← h2] at hu
  rw [still_one ok h3 sok.1 h4]
  refine List.mem_map.mpr ⟨(un s (endV n s ws l) 0).toNat, List.mem_range.mpr (by omega), ?_⟩
  rw [Int.toNat_of_nonneg (by omega)]
theorem use_rows (ok : GOk n s ws) (h3 : n ≤ 3) (hl : (l.length : Int) = n) (hb : ∀ x ∈ l, 0 ≤ x ∧ x ≤ 9) {M : MS} (hM : ∀ c ∈ M, ClnC c) {X : EK} {k : D → MS → Prop} (q : k (.lst (rowsT n s ws l (endT n s ws l))) M) : sp_all_rows [.gm n s ws, .tup (iL l)] M X k := by
  obtain ⟨h1, _, h2, h4⟩ := few_of ok h3 hl hb
  refine ⟨n, s, ws, l, _, rfl, ok, hl, by omega, h2, hM, fun T _ h5 h6 => ?_⟩
  have e : T = endT n s ws l := by
    rcases Nat.lt_trichotomy T (endT n s ws l) with q | q | q
    · exact absurd h5 (h4 T q)
    · exact q
    · exact absurd h2 (h6 _ q)
  rw [e]
  exact q
end
abbrev cB : Int := 10 ^ 30 + 1
def endsA (n s : Int) (ws : List Int) (m : Int) : List (List Int) := (rowsUp m n.toNat).map (endV n s ws)
def lapsA (n s : Int) (ws : List Int) (m : Int) : List (List Int) := (rowsUp m n.toNat).map fun r => [((endT n s ws r : Nat) : Int)]
abbrev sp_ends_of : DSp := fun xs M X k => ∃ n s ws m, xs = [.gm n s ws, .int m] ∧ GOk n s ws ∧ n ≤ 3 ∧ 0 ≤ m ∧ m ≤ 9 ∧ (∀ c ∈ M, ClnC c) ∧
  ∀ us : List (List Int), us.Nodup → (∀ u, u ∈ us ↔ u ∈ endsA n s ws m) → us.Pairwise (fun u v => TS.code cB u ≤ TS.code cB v) → k (.lst (cntD true (endsA n s ws m) us)) M
abbrev sp_rounds_of : DSp := fun xs M X k => ∃ n s ws m, xs = [.gm n s ws, .int m] ∧ GOk n s ws ∧ n ≤ 3 ∧ 0 ≤ m ∧ m ≤ 9 ∧ (∀ c ∈ M, ClnC c) ∧
  ∀ us : List (List Int), us.Nodup → (∀ u, u ∈ us ↔ u ∈ lapsA n s ws m) → us.Pairwise (fun u v => TS.code cB u ≤ TS.code cB v) → k (.lst (cntD false (lapsA n s ws m) us)) M
theorem few_none {n m : Int} (h3 : n ≤ 3) (m0 : 0 ≤ m) (m9 : m ≤ 9) : fewErr n (.int m) = none := by
  unfold fewErr
  rw [if_neg (by omega), isFrom_i ⟨m0, m9⟩, if_pos rfl]
theorem use_few {n s : Int} {ws : List Int} {m : Int} (h3 : n ≤ 3) (m0 : 0 ≤ m) (m9 : m ≤ 9) {M : MS} {X : EK} {k : D → MS → Prop} (q : k .non M) : sp_check_few [.gm n s ws, .int m] M X k :=
  ⟨n, s, ws, _, rfl, tyOk_i M m, (fun e he => by rw [few_none h3 m0 m9] at he; cases he), fun _ => q⟩
abbrev d_ends_of : DS := (sSeq (sDrop (dCall sp_check_few [] (dCons (dV 0) (dCons (dV 1) dNil)))) (sRet (dCall sp_counted [] (dCons (dLc (iLs (dCall sp_starts_of [] (dCons (dV 0) (dCons (dV 1) dNil)))) (gN 2) dYes (dOp rdIx (dCall sp_all_rows [] (dCons (dV 0) (dCons (dV 2) dNil))) (dNeg (dI 1))) [2]) dNil))))
--  3 ['game', 'most', 'start']
theorem pure_ends_of : ∀ ys M X P, sp_ends_of ys M X P → d_ends_of (startD 3 ys) M (bodyN M.length X P) := by
  rintro ys M X P ⟨n, s, ws, m, rfl, ok, h3, m0, m9, hM, q⟩
  have hn2 := ok.n2
  unfold d_ends_of
  walk_at "ev"
  refine use_few h3 m0 m9 ?_
  refine ⟨n, s, ws, m, rfl, by omega, h3, m0, m9, hM, _, rfl, ?_⟩
  have hlen := rowsUp_len m n.toNat
  have h1000 : (m + 1).toNat ^ n.toNat ≤ 10 ^ 3 := Nat.le_trans (Nat.pow_le_pow_left (by omega) _) (Nat.pow_le_pow_right (by decide) (by omega))
  have hr : ∀ r ∈ rowsUp m n.toNat, (r.length : Int) = n ∧ ∀ x ∈ r, 0 ≤ x ∧ x ≤ 9 := fun r hr => by
    obtain ⟨h1, h2⟩ := rowsUp_mem hr
    exact ⟨by omega, fun x hx => by have := h2 x hx; omega⟩
  refine lc_map (fun y => .tup (iL (endV n s ws (y0 y)))) hM (by rw [rowsD_len, hlen, sizeLine_val]; omega) (fun y hy => cln_tL _) ?_ ?_
  · intro y hy acc hacc Q hQ
    obtain ⟨r, hrm, rfl⟩ := List.mem_map.mp hy
    obtain ⟨h1, h2⟩ := hr r hrm
    rw [y0_iL] at hQ
    try walk_at "ev"
    have hM1 : ∀ c ∈ M ++ [Cell.lst acc], ClnC c := clnC_app hM hacc
    refine use_rows ok h3 h1 h2 hM1 ?_
    refine ⟨_, seqOf_lst _ _, _, rowsT_last n s ws r _, ?_⟩
    rw [← (few_of ok h3 h1 h2).2.1]
    exact hQ
  · have e : (rowsD (rowsUp m n.toNat)).map (fun y => .tup (iL (endV n s ws (y0 y)))) = (endsA n s ws m).map (kD true) := by
      unfold rowsD endsA
      rw [List.map_map, List.map_map]
      refine List.map_congr_left fun r _ => ?_
      show D.tup (iL (endV n s ws (y0 (.tup (iL r))))) = _
      rw [y0_iL]
      rfl
    rw [e]
    refine ⟨true, endsA n s ws m, endsL n s, n.toNat, cB, rfl, (fun h => nomatch h), by omega, fun u hu => ?_, fun u hu => ?_, by unfold endsL; rw [List.length_map, List.length_range]; decide, hM, fun us h1 h2 h4 => .same (q us h1 h2 h4)⟩
    · obtain ⟨r, hrm, rfl⟩ := List.mem_map.mp hu
      obtain ⟨h1, h2⟩ := hr r hrm
      exact ⟨(endV_ok ok h3 h1 h2).1, (endV_ok ok h3 h1 h2).2.1⟩
    · obtain ⟨r, hrm, rfl⟩ := List.mem_map.mp hu
      obtain ⟨h1, h2⟩ := hr r hrm
      exact (endV_ok ok h3 h1 h2).2.2
abbrev d_rounds_of : DS := (sSeq (sDrop (dCall sp_check_few [] (dCons (dV 0) (dCons (dV 1) dNil)))) (sRet (dCall sp_counted [] (dCons (dLc (iLs (dCall sp_starts_of [] (dCons (dV 0) (dCons (dV 1) dNil)))) (gN 2) dYes (dOp rdSub (dCB rdLen (dCons (dCall sp_all_rows [] (dCons (dV 0) (dCons (dV 2) dNil))) dNil)) (dI 1)) [2]) dNil))))
--  3 ['game', 'most', 'start']
theorem pure_rounds_of : ∀ ys M X P, sp_rounds_of ys M X P → d_rounds_of (startD 3 ys) M (bodyN M.length X P) := by
  rintro ys M X P ⟨n, s, ws, m, rfl, ok, h3, m0, m9, hM, q⟩
  have hn2 := ok.n2
  unfold d_rounds_of
  walk_at "ev"
  refine use_few h3 m0 m9 ?_
  refine ⟨n, s, ws, m, rfl, by omega, h3, m0, m9, hM, _, rfl, ?_⟩
  have hlen := rowsUp_len m n.toNat
  have h1000 : (m + 1).toNat ^ n.toNat ≤ 10 ^ 3 := Nat.le_trans (Nat.pow_le_pow_left (by omega) _) (Nat.pow_le_pow_right (by decide) (by omega))
  have hr : ∀ r ∈ rowsUp m n.toNat, (r.length : Int) = n ∧ ∀ x ∈ r, 0 ≤ x ∧ x ≤ 9 := fun r hr => by
    obtain ⟨h1, h2⟩ := rowsUp_mem hr
    exact ⟨by omega, fun x hx => by have := h2 x hx; omega⟩
  refine lc_map (fun y => .int ((endT n s ws (y0 y) : Nat) : Int)) hM (by rw [rowsD_len, hlen, sizeLine_val]; omega) (fun y hy => .int _) ?_ ?_
  · intro y hy acc hacc Q hQ
    obtain ⟨r, hrm, rfl⟩ := List.mem_map.mp hy
    obtain ⟨h1, h2⟩ := hr r hrm
    rw [y0_iL] at hQ
    try walk_at "ev"
    have hM1 : ∀ c ∈ M ++ [Cell.lst acc], ClnC c := clnC_app hM hacc
    refine use_rows ok h3 h1 h2 hM1 ?_
    refine ⟨_, seqOf_lst _ _, ?_⟩
    rw [rowsT_len, show ((endT n s ws r + 1 : Nat) : Int) - 1 = ((endT n s ws r : Nat) : Int) by omega]
    exact hQ
  · have e : (rowsD (rowsUp m n.toNat)).map (fun y => .int ((endT n s ws (y0 y) : Nat) : Int)) = (lapsA n s ws m).map (kD false) := by
      unfold rowsD lapsA
      rw [List.map_map, List.map_map]
      refine List.map_congr_left fun r _ => ?_
      show D.int ((endT n s ws (y0 (.tup (iL r))) : Nat) : Int) = _
      rw [y0_iL]
      rfl
    rw [e]
    refine ⟨false, lapsA n s ws m, (List.range 25).map (fun (t : Nat) => [(t : Int)]), 1, cB, rfl, (fun _ => rfl), by omega, fun u hu => ?_, fun u hu => ?_, by rw [List.length_map, List.length_range]; decide, hM, fun us h1 h2 h4 => .same (q us h1 h2 h4)⟩
    · obtain ⟨r, hrm, rfl⟩ := List.mem_map.mp hu
      obtain ⟨h1, h2⟩ := hr r hrm
      refine ⟨rfl, fun x hx => ?_⟩
      rw [List.mem_singleton] at hx
      have := (few_of ok h3 h1 h2).1
      show 0 ≤ x ∧ x < (10 : Int) ^ 30 + 1
      omega
    · obtain ⟨r, hrm, rfl⟩ := List.mem_map.mp hu
      obtain ⟨h1, h2⟩ := hr r hrm
      have := (few_of ok h3 h1 h2).1
      exact List.mem_map.mpr ⟨endT n s ws r, List.mem_range.mpr (by omega), rfl⟩
/-- the most rounds, and the first start that takes them -/
def bestF (n s : Int) (ws : List Int) (L : List (List Int)) : Option (Int × List Int) := L.foldl (fun b r => match b with
  | none => some (((endT n s ws r : Nat) : Int), r)
  | some (m, q) => if m < ((endT n s ws r : Nat) : Int) then some (((endT n s ws r : Nat) : Int), r) else some (m, q)) none
def bestD : Option (Int × List Int) → D
  | none => .non
  | some (m, q) => .tup [.int m, .tup (iL q)]
abbrev sp_longest : DSp := fun xs M X k => ∃ n s ws m, xs = [.gm n s ws, .int m] ∧ GOk n s ws ∧ n ≤ 3 ∧ 0 ≤ m ∧ m ≤ 9 ∧ (∀ c ∈ M, ClnC c) ∧ k (bestD (bestF n s ws (rowsUp m n.toNat))) M
abbrev d_longest : DS := (sSeq (sDrop (dCall sp_check_few [] (dCons (dV 0) (dCons (dV 1) dNil)))) (sSeq (sAsg (dC .non) (gN 2)) (sSeq (sFor (iLs (dCall sp_starts_of [] (dCons (dV 0) (dCons (dV 1) dNil)))) (gN 3) (sSeq (sAsg (dOp rdSub (dCB rdLen (dCons (dCall sp_all_rows [] (dCons (dV 0) (dCons (dV 3) dNil))) dNil)) (dI 1)) (gN 4)) (sIf (dOr (dB (dOp rdIs (dV 2) (dC .non))) (dB (dOp rdGt (dV 4) (dOp rdIx (dV 2) (dI 0))))) (sAsg (dTup (dCons (dV 4) (dCons (dV 3) dNil))) (gN 2)) sNx))) (sRet (dV 2)))))
--  5 ['game', 'most', 'best', 'start', 'rounds']
theorem pure_longest : ∀ ys M X P, sp_longest ys M X P → d_longest (startD 5 ys) M (bodyN M.length X P) := by
  rintro ys M X P ⟨n, s, ws, m, rfl, ok, h3, m0, m9, hM, q⟩
  have hn2 := ok.n2
  unfold d_longest
  walk_at "ev"
  refine use_few h3 m0 m9 ?_
  refine ⟨n, s, ws, m, rfl, by omega, h3, m0, m9, hM, _, rfl, ?_⟩
  have hr : ∀ r ∈ rowsUp m n.toNat, (r.length : Int) = n ∧ ∀ x ∈ r, 0 ≤ x ∧ x ≤ 9 := fun r hr => by
    obtain ⟨h1, h2⟩ := rowsUp_mem hr
    exact ⟨by omega, fun x hx => by have := h2 x hx; omega⟩
  refine for_inv (fun i g M' => M' = M ∧ ∃ a3 a4, g = [some (.gm n s ws), some (.int m), some (bestD (bestF n s ws ((rowsUp m n.toNat).take i))), a3, a4]) ⟨rfl, _, _, rfl⟩ ?_ ?_
  · rintro i y g1 M1 e ⟨rfl, a3, a4, rfl⟩
    obtain ⟨r, er, rfl⟩ : ∃ r, (rowsUp m n.toNat)[i]? = some r ∧ y = .tup (iL r) := by
      unfold rowsD at e
      rw [List.getElem?_map] at e
      cases h : (rowsUp m n.toNat)[i]? with
      | none => rw [h] at e; cases e
      | some r => rw [h] at e; cases e; exact ⟨r, rfl, rfl⟩
    obtain ⟨h1, h2⟩ := hr r (List.mem_of_getElem? er)
    try walk_at "ev"
    refine use_rows ok h3 h1 h2 hM ?_
    refine ⟨_, seqOf_lst _ _, ?_⟩
    rw [rowsT_len, show ((endT n s ws r + 1 : Nat) : Int) - 1 = ((endT n s ws r : Nat) : Int) by omega]
    have estep : bestF n s ws ((rowsUp m n.toNat).take (i + 1)) = (match bestF n s ws ((rowsUp m n.toNat).take i) with
        | none => some (((endT n s ws r : Nat) : Int), r)
        | some (m, q) => if m < ((endT n s ws r : Nat) : Int) then some (((endT n s ws r : Nat) : Int), r) else some (m, q)) := by
      unfold bestF
      rw [List.take_add_one, er, List.foldl_append]
      rfl
    rw [estep]
    cases bestF n s ws ((rowsUp m n.toNat).take i) with
    | none =>
      rw [rdIs_n]
      refine ⟨_, rfl, ?_⟩
      rw [if_pos (by rfl)]
      exact ⟨by rw [sizeLine_val]; decide, rfl, rfl, _, rfl⟩
    | some b =>
      obtain ⟨c, p⟩ := b
      rw [rdIs_n]
      refine ⟨_, rfl, ?_⟩
      rw [if_neg (by show ¬ false = true; decide)]
      refine ⟨_, seqOf_tup _ _, _, atD_0 _ _, _, rfl, ?_⟩
      by_cases hc : c < ((endT n s ws r : Nat) : Int)
      · rw [if_pos (decide_eq_true hc)]
        refine ⟨by rw [sizeLine_val]; decide, rfl, ?_, _, rfl⟩
        show _ = bestD (if c < ((endT n s ws r : Nat) : Int) then some (((endT n s ws r : Nat) : Int), r) else some (c, p))
        rw [if_pos hc]
        rfl
      · rw [if_neg (by rw [decide_eq_true_eq]; exact hc)]
        refine ⟨rfl, ?_, _, rfl⟩
        show _ = bestD (if c < ((endT n s ws r : Nat) : Int) then some (((endT n s ws r : Nat) : Int), r) else some (c, p))
        rw [if_neg hc]
  · rintro g1 M1 ⟨rfl, a3, a4, rfl⟩
    rw [rowsD_len, List.take_length]
    exact ⟨_, rfl, .same q⟩
end Sw

--EVX dNewDic dDGet2 sDPutD rdSortX rdListC dDix rdSS dCountX dIndexI
namespace Sw
open PySem PySem.Spec PyProof.Rows L2 PD
local macro_rules | `(tactic| walk_at "ev") => `(tactic| simp only [sSeq, sAsg, sRet, sRetN, sIf, sDrop, sNx, sPar, sPar3, gN, gT, gsCons, gsNil, dV, dC, dI, dOp, dUn, dCh, dB, dAnd, dOr, dNot, dAndV, dOrV, dNotV, dIf, dNil, dCons, dTup, dLst, dCB, dCall, dSetLen, sTry, hdlD, dkRun, dkCls, dI0, dI2, rdLen, rdIsi, rdIsiT, rdIx, dGet_eq, rdGet_size, rdGet_share, rdGet_ways,
  sFor_eq, dLc_eq, iTp, iLs, iSc, iR1, iR2, iEnT, iEnL, iEnS, wipeD_nil, wipeD_cons, sOpen, dShut, sBrk, sCnt, sNever, dNeg, dPart, dNoPart, dSl, sAug, sSetL, dApp, dPopAt, dNewL, dNewCat, dToRng, sPut, dMake, finG, sRaise0, sRaise1, sFrz, dNewRep, dNewDic, dDGet2, sDPutD, rdSortX, rdListC, dDix, rdSS, dCountX, dIndexI, dNewList, dPop, dStar, dUn,
  rdEq_i, rdNe_i, sI_2, ixN_0, ixN_1, Cell.lst.injEq, rdInt_i, rdInt_b, rdAbs_i, rdMax2_i, eqD_int, eqOk_int, cellD_int, eqD_bl, eqOk_bl, cellD_bl, eqOk_non, seqOf_lst, seqOf_tup, lstOf_lst, atD_0, atD_1, atD_2, List.set_set, cellD_lst, cellD_tup, iL_cons, iL_nil, iL_len,
  startD, bodyN, List.map_cons, List.map_nil, List.length_cons, List.length_nil, List.replicate_succ, List.replicate_zero, List.cons_append, List.nil_append, List.append_nil, List.getElem?_cons_zero, List.getElem?_cons_succ, List.set_cons_zero, List.set_cons_succ, Nat.reduceSub, Nat.reduceAdd, Nat.zero_add,
  Option.some.injEq, exists_eq_left', exists_eq_left, D.int.injEq, D.bl.injEq, D.lst.injEq, D.tup.injEq, D.str.injEq, D.ptr.injEq, D.scr.injEq, D.gm.injEq, List.cons.injEq, and_true, true_and, exists_and_left, exists_and_right, D.ty.injEq, and_assoc, ↓reduceIte, eq_self, Bool.not_true, Bool.not_false, Bool.false_eq_true, decide_true, decide_false])
/-! SwK12: the counts, told from all rows of all starts. -/
abbrev sp_law_starts : DSp := sp_starts_of
def longer (m : Int) (R : List (List Int)) : List (List Int) := R.flatMap fun r => (rngL 0 (m + 1).toNat).map fun v => r ++ [v]
theorem add_cln (r : List Int) (v : Int) : Cln (addD (.tup (iL r)) (.int v)) := by
  refine .tup fun d hd => ?_
  rcases List.mem_append.mp hd with hd | hd
  · exact Cln.iL d hd
  · rw [List.mem_singleton.mp hd]; exact .int _
abbrev d_law_starts : DS := (sSeq (sAsg (dLst (dCons (dTup dNil) dNil)) (gN 2)) (sSeq (sFor (iR1 (dCons (dGet "size" (dV 0)) dNil)) (gN 3) (sSeq (sAsg (dLst dNil) (gN 4)) (sSeq (sFor (iLs (dV 2)) (gN 5) (sAsg (dOp rdCat (dV 4) (dLc (iR1 (dCons (dOp rdAdd (dV 1) (dI 1)) dNil)) (gN 6) dYes (dOp rdCatT (dV 5) (dTup (dCons (dV 6) dNil))) [6])) (gN 4))) (sAsg (dV 4) (gN 2))))) (sRet (dV 2))))
--  7 ['_law_game_here', '_law_most', '_law_found', '_law_child', '_law_longer', '_law_row', '_law_number']
theorem pure_law_starts : ∀ ys M X P, sp_law_starts ys M X P → d_law_starts (startD 7 ys) M (bodyN M.length X P) := by
  rintro ys M X P ⟨n, s, ws, m, rfl, hn0, hn, hm0, hm, hM, q⟩
  unfold d_law_starts
  walk_at "ev"
  refine ⟨Nat.zero_le _, by rw [sizeLine_val]; decide, by omega, by omega, ?_⟩
  refine for_inv (fun i g M' => M' = M ∧ ∃ b3 b4 b5 b6, g = [some (.gm n s ws), some (.int m), some (.lst (rowsD (rowsUp m i))), b3, b4, b5, b6]) ⟨rfl, _, _, _, _, rfl⟩ ?_ ?_
  · rintro i y g1 M1 e ⟨rfl, b3, b4, b5, b6, rfl⟩
    obtain ⟨hi, rfl⟩ := rng_get _ _ _ e
    have hlen := rowsUp_len m i
    have hlen2 := rowsUp_len m (i + 1)
    have hp : ∀ k, k ≤ 3 → (m + 1).toNat ^ k ≤ 1000 := fun k hk => by
      have h1 : (m + 1).toNat ^ k ≤ 10 ^ k := Nat.pow_le_pow_left (by omega) k
      have h2 : 10 ^ k ≤ 10 ^ 3 := Nat.pow_le_pow_right (by decide) hk
      omega
    have hp1 := hp i (by omega)
    have hp2 := hp (i + 1) (by omega)
    try walk_at "ev"
    refine ⟨Nat.zero_le _, ?_⟩
    refine for_inv (fun j g M' => M' = M1 ∧ ∃ b3 b5 b6, g = [some (.gm n s ws), some (.int m), some (.lst (rowsD (rowsUp m i))), b3, some (.lst (rowsD (longer m ((rowsUp m i).take j)))), b5, b6]) ⟨rfl, _, _, _, rfl⟩ ?_ ?_
    · rintro j y g2 M2 e2 ⟨rfl, b3, b5, b6, rfl⟩
      obtain ⟨r, er, rfl⟩ : ∃ r, (rowsUp m i)[j]? = some r ∧ y = .tup (iL r) := by
        unfold rowsD at e2
        rw [List.getElem?_map] at e2
        cases h : (rowsUp m i)[j]? with
        | none => rw [h] at e2; cases e2
        | some r => rw [h] at e2; cases e2; exact ⟨r, rfl, rfl⟩
      have hr := (rowsUp_mem (List.mem_of_getElem? er)).1
      have hj := (List.getElem?_eq_some_iff.mp er).1
      have htk : longer m ((rowsUp m i).take (j + 1)) = longer m ((rowsUp m i).take j) ++ (rngL 0 (m + 1).toNat).map fun v => r ++ [v] := by
        unfold longer
        rw [List.take_add_one, er, List.flatMap_append]
        simp
      have hsz : (longer m ((rowsUp m i).take j)).length + (m + 1).toNat ≤ 1000 := by
        have h1 : longer m (rowsUp m i) = longer m ((rowsUp m i).take (j + 1)) ++ longer m ((rowsUp m i).drop (j + 1)) := by
          unfold longer
          rw [← List.flatMap_append, List.take_append_drop]
        have h2 := congrArg List.length h1
        rw [htk, List.length_append, List.length_append, List.length_map, rngL_len] at h2
        have h3 : (longer m (rowsUp m i)).length = (m + 1).toNat ^ (i + 1) := hlen2
        omega
      try walk_at "ev"
      refine ⟨by omega, by omega, ?_⟩
      refine lc_map (addD (.tup (iL r))) hM (by rw [iL_len, rngL_len, sizeLine_val]; omega) (fun y hy => ?_) ?_ ?_
      · obtain ⟨v, _, rfl⟩ := List.mem_map.mp hy
        exact add_cln r v
      · intro y hy acc _ Q hQ
        obtain ⟨v, _, rfl⟩ := List.mem_map.mp hy
        try walk_at "ev"
        exact ⟨by rw [sizeLine_val]; decide, _, _, rfl, rfl, by rw [iL_len, hr, List.length_singleton, sizeLine_val]; omega, hQ⟩
      · try walk_at "ev"
        refine ⟨_, _, lstOf_lst _ _, lstOf_lst _ _, ?_, ?_, _, rfl⟩
        · rw [rowsD_len, List.length_map, iL_len, rngL_len, sizeLine_val]; omega
        · rw [htk]
          unfold rowsD
          rw [List.map_append]
          congr 2
          unfold iL
          rw [List.map_map, List.map_map]
          exact List.map_congr_left fun v _ => by
            show addD (.tup (iL r)) (.int v) = .tup (iL (r ++ [v]))
            unfold addD iL
            rw [List.map_append]
            rfl
    · rintro g2 M2 ⟨rfl, b3, b5, b6, rfl⟩
      rw [rowsD_len, List.take_length]
      try walk_at "ev"
      exact ⟨rfl, _, rfl⟩
  · rintro g1 M1 ⟨rfl, b3, b4, b5, b6, rfl⟩
    rw [rng_len]
    try walk_at "ev"
    exact .same q
theorem count_kD {t : Bool} {ks : List (List Int)} {u : List Int} (h : ∀ z ∈ ks, t = false → z.length = 1) (hu : t = false → u.length = 1) : (ks.countP fun z => eqD (kD t z) (kD t u)) = ks.count u := by
  unfold List.count
  refine List.countP_congr fun z hz => ?_
  have e : eqD (kD t z) (kD t u) = decide (z = u) := by
    cases t with
    | true => exact eqD_tL z u
    | false =>
      obtain ⟨x, rfl⟩ := List.length_eq_one_iff.mp (h z hz rfl)
      obtain ⟨y, rfl⟩ := List.length_eq_one_iff.mp (hu rfl)
      show eqD (.int x) (.int y) = _
      rw [eqD_int]
      by_cases q : x = y
      · rw [decide_eq_true q, decide_eq_true (by rw [q])]
      · rw [decide_eq_false q, decide_eq_false fun e => q (by injection e)]
  rw [e]
  simp
abbrev sp_law_counted : DSp := fun xs M X q => ∃ (t : Bool) (ks Dl : List (List Int)) (d : Nat) (B : Int), xs = [.lst (ks.map (kD t))] ∧ (t = false → d = 1) ∧ 1 ≤ d ∧ (∀ u ∈ ks, u.length = d ∧ TS.Bd B u) ∧ (∀ u ∈ ks, u ∈ Dl) ∧ Dl.length < 63 ∧ (∀ c ∈ M, ClnC c) ∧
  ∀ us : List (List Int), us.Nodup → (∀ u, u ∈ us ↔ u ∈ ks) → us.Pairwise (fun u v => TS.code B u ≤ TS.code B v) → q (.lst (cntD t ks us)) M
abbrev d_law_counted : DS := (sRet (dLc (iLs (dCB rdSS (dCons (dV 0) dNil))) (gN 1) dYes (dTup (dCons (dV 1) (dCons (dCountX (dV 0) (dV 1)) dNil))) [1]))
--  2 ['_law_things', '_law_thing']
theorem pure_law_counted : ∀ ys M X P, sp_law_counted ys M X P → d_law_counted (startD 2 ys) M (bodyN M.length X P) := by
  rintro ys M X P ⟨t, ks, Dl, d, B, rfl, ht, hd, hB, hDl, hDn, hM, q⟩
  unfold d_law_counted
  walk_at "ev"
  refine ⟨t, ks, rfl, Dl, d, ht, hd, ⟨B, hB, hDl, hDn, fun us h1 h2 h3 => ?_⟩⟩
  have hus : us.length ≤ Dl.length := nodup_le h1 fun u hu => hDl u ((h2 u).mp hu)
  have one : ∀ u ∈ ks, t = false → u.length = 1 := fun u hu h => by rw [(hB u hu).1, ht h]
  refine lc_map (fun y => .tup [y, .int (ks.count (kOf y) : Int)]) hM (by rw [List.length_map, sizeLine_val]; omega) (fun y hy => ?_) ?_ ?_
  · obtain ⟨u, _, rfl⟩ := List.mem_map.mp hy
    refine .tup fun d hd => ?_
    rcases List.mem_cons.mp hd with h | h
    · subst h; exact kD_cln t u
    · rw [List.mem_singleton.mp h]; exact .int _
  · intro y hy acc _ Q hQ
    obtain ⟨u, hu, rfl⟩ := List.mem_map.mp hy
    have huk := (h2 u).mp hu
    rw [kOf_kD (one u huk)] at hQ
    try walk_at "ev"
    refine ⟨t, ks, rfl, u, rfl, by rw [sizeLine_val]; decide, ?_⟩
    rw [count_kD one (one u huk)]
    exact hQ
  · have e : (us.map (kD t)).map (fun y => .tup [y, .int (ks.count (kOf y) : Int)]) = cntD t ks us := by
      unfold cntD
      rw [List.map_map]
      refine List.map_congr_left fun u hu => ?_
      show D.tup [kD t u, .int (ks.count (kOf (kD t u)) : Int)] = _
      rw [kOf_kD (one u ((h2 u).mp hu))]
    rw [e]
    exact .same (q us h1 h2 h3)
theorem code_inj {B : Int} : ∀ {u v : List Int}, u.length = v.length → TS.Bd B u → TS.Bd B v → TS.code B u = TS.code B v → u = v
  | [], [], _, _, _, _ => rfl
  | [], _ :: _, h, _, _, _ => by cases h
  | _ :: _, [], h, _, _, _ => by cases h
  | d :: u, e :: v, h, hu, hv, he => by
    have hl : u.length = v.length := by simpa using h
    rcases Int.lt_trichotomy d e with q | q | q
    · have := TS.code_lt hl hu.tail hv.tail q
      omega
    · subst q
      have h1 := TS.code_same (B := B) (d := d) hl
      have h2 := TS.code_same (B := B) (d := d) hl.symm
      have : TS.code B u = TS.code B v := by
        rcases Int.lt_trichotomy (TS.code B u) (TS.code B v) with z | z | z
        · have := h1.mpr z; omega
        · exact z
        · have := h2.mpr z; omega
      rw [code_inj hl hu.tail hv.tail this]
    · have := TS.code_lt hl.symm hv.tail hu.tail q
      omega
theorem sorted_same {f : List Int → Int} : ∀ {us vs : List (List Int)}, (∀ u ∈ vs, ∀ v ∈ vs, f u = f v → u = v) → us.Perm vs → us.Pairwise (fun u v => f u ≤ f v) → vs.Pairwise (fun u v => f u ≤ f v) → us = vs
  | [], vs, _, p, _, _ => (List.nil_perm.mp p).symm
  | u :: us, [], _, p, _, _ => by have := List.perm_nil.mp p; cases this
  | u :: us, v :: vs, inj, p, h1, h2 => by
    rw [List.pairwise_cons] at h1 h2
    have hu : u ∈ v :: vs := p.mem_iff.mp List.mem_cons_self
    have hv : v ∈ u :: us := p.mem_iff.mpr List.mem_cons_self
    have le1 : f u ≤ f v := by
      rcases List.mem_cons.mp hv with h | h
      · rw [h]; exact Int.le_refl _
      · exact h1.1 v h
    have le2 : f v ≤ f u := by
      rcases List.mem_cons.mp hu with h | h
      · rw [h]; exact Int.le_refl _
      · exact h2.1 u h
    have e : u = v := inj u hu v List.mem_cons_self (by omega)
    subst e
    rw [sorted_same (fun a ha b hb => inj a (List.mem_cons_of_mem _ ha) b (List.mem_cons_of_mem _ hb)) ((List.perm_cons u).mp p) h1.2 h2.2]
/-- the different ones, sorted: there is one such list -/
theorem one_way {L us vs : List (List Int)} {d : Nat} {B : Int} (hL : ∀ u ∈ L, u.length = d ∧ TS.Bd B u) (u1 : us.Nodup) (u2 : ∀ u, u ∈ us ↔ u ∈ L) (u3 : us.Pairwise fun u v => TS.code B u ≤ TS.code B v)
    (v1 : vs.Nodup) (v2 : ∀ u, u ∈ vs ↔ u ∈ L) (v3 : vs.Pairwise fun u v => TS.code B u ≤ TS.code B v) : us = vs :=
  sorted_same (f := TS.code B) (fun u hu v hv e => by
    have a := hL u ((v2 u).mp hu)
    have b := hL v ((v2 v).mp hv)
    exact code_inj (a.1.trans b.1.symm) a.2 b.2 e) ((List.perm_ext_iff_of_nodup u1 v1).mpr fun u => (u2 u).trans (v2 u).symm) u3 v3
def lapI (n s : Int) (ws : List Int) (r : List Int) : Int := ((endT n s ws r : Nat) : Int)
theorem best_of {n s : Int} {ws : List Int} {L : List (List Int)} : ∀ i, i + 1 ≤ L.length → ∃ j q, j ≤ i ∧ L[j]? = some q ∧ bestF n s ws (L.take (i + 1)) = some (lapI n s ws q, q) ∧ (∀ m z, m < j → L[m]? = some z → lapI n s ws z < lapI n s ws q) ∧
    ∀ m z, m ≤ i → L[m]? = some z → lapI n s ws z ≤ lapI n s ws q := by
  have step : ∀ i r, L[i]? = some r → bestF n s ws (L.take (i + 1)) = (match bestF n s ws (L.take i) with
      | none => some (lapI n s ws r, r)
      | some (m, q) => if m < lapI n s ws r then some (lapI n s ws r, r) else some (m, q)) := fun i r er => by
    unfold bestF
    rw [List.take_add_one, er, List.foldl_append]
    rfl
  intro i
  induction i with
  | zero =>
    intro h
    have e0 : L[0]? = some L[0] := List.getElem?_eq_getElem (by omega)
    refine ⟨0, L[0], Nat.le_refl _, e0, ?_, fun m z hm => absurd hm (Nat.not_lt_zero _), fun m z hm ez => ?_⟩
    · rw [step 0 _ e0]
      rfl
    · have : m = 0 := by omega
      subst this
      rw [e0] at ez
      cases ez
      exact Int.le_refl _
  | succ i ih =>
    intro h
    obtain ⟨j, q, hj, ej, eb, hlt, hle⟩ := ih (by omega)
    have ei : L[i + 1]? = some L[i + 1] := List.getElem?_eq_getElem (by omega)
    have es := step (i + 1) _ ei
    rw [eb] at es
    generalize L[i + 1] = r at ei es
    by_cases c : lapI n s ws q < lapI n s ws r
    · refine ⟨i + 1, r, Nat.le_refl _, ei, ?_, fun m z hm ez => ?_, fun m z hm ez => ?_⟩
      · rw [es]
        show (if lapI n s ws q < lapI n s ws r then some (lapI n s ws r, r) else some (lapI n s ws q, q)) = _
        rw [if_pos c]
      · exact Int.lt_of_le_of_lt (hle m z (by omega) ez) c
      · by_cases hm2 : m = i + 1
        · subst hm2
          rw [ei] at ez
          cases ez
          exact Int.le_refl _
        · exact Int.le_of_lt (Int.lt_of_le_of_lt (hle m z (by omega) ez) c)
    · refine ⟨j, q, by omega, ej, ?_, hlt, fun m z hm ez => ?_⟩
      · rw [es]
        show (if lapI n s ws q < lapI n s ws r then some (lapI n s ws r, r) else some (lapI n s ws q, q)) = _
        rw [if_neg c]
      · by_cases hm2 : m = i + 1
        · subst hm2
          rw [ei] at ez
          cases ez
          omega
        · exact hle m z (by omega) ez
theorem use_most12 {c : Bool} {M : MS} {X : EK} {K : D → MS → Prop} (hj : M[0]? = some .rng) (hK : ∀ mm : Int, 0 ≤ mm → mm ≤ 9 → K (.int mm) M) :
    if c = true then sp_law_below [.ptr 0, .int 10] M X K else sp_law_below [.ptr 0, .int 6] M X fun x M1 => rdEq x (.int 0) M1 fun z => ∃ b, z = .bl b ∧ if b = true then sp_law_below [.ptr 0, .int 10] M1 X K else sp_law_below [.ptr 0, .int 5] M1 X K := by
  have h10 : sp_law_below [.ptr 0, .int 10] M X K := use_below hj (by decide) (by decide) fun r h0 h1 => hK r h0 (by omega)
  cases c with
  | true => rw [if_pos rfl]; exact h10
  | false =>
    rw [if_neg (by decide)]
    refine use_below hj (by decide) (by decide) fun r h0 h1 => ?_
    rw [rdEq_i]
    refine ⟨_, rfl, ?_⟩
    cases decide (r = 0) with
    | true => rw [if_pos rfl]; exact h10
    | false => rw [if_neg (by decide)]; exact use_below hj (by decide) (by decide) fun r h0 h1 => hK r h0 (by omega)
theorem use_law_rows {n s : Int} {ws l : List Int} (ok : GOk n s ws) (h3 : n ≤ 3) (hl : (l.length : Int) = n) (hb : ∀ x ∈ l, 0 ≤ x ∧ x ≤ 9) {M : MS} (hM : ∀ c ∈ M, ClnC c) {X : EK} {k : D → MS → Prop} (q : k (.lst (rowsT n s ws l (endT n s ws l))) M) : sp_law_rows [.gm n s ws, .tup (iL l)] M X k := by
  obtain ⟨h1, _, h2, h4⟩ := few_of ok h3 hl hb
  refine ⟨n, s, ws, l, _, rfl, ok, hl, by omega, h2, hM, fun T _ h5 h6 => ?_⟩
  have e : T = endT n s ws l := by
    rcases Nat.lt_trichotomy T (endT n s ws l) with q | q | q
    · exact absurd h5 (h4 T q)
    · exact q
    · exact absurd h2 (h6 _ q)
  rw [e]
  exact q
def lastD : D → D
  | .lst xs => (atD xs (-1)).getD .non
  | _ => .non
def lapD : D → D
  | .lst xs => .int ((xs.length : Int) - 1)
  | _ => .non
def allD (n s : Int) (ws : List Int) (R : List (List Int)) : List D := R.map fun r => .lst (rowsT n s ws r (endT n s ws r))
theorem pz_cnt {t : Bool} {ks us : List (List Int)} (h : ∀ u ∈ us, u.length ≤ 100) (hl : us.length ≤ 100) : Pz 4 (.lst (cntD t ks us)) := by
  refine .lst 3 _ (fun d hd => ?_) (by unfold cntD; rw [List.length_map]; omega)
  obtain ⟨u, hu, rfl⟩ := List.mem_map.mp hd
  refine .tup 2 _ (fun d hd => ?_) (by simp)
  rcases List.mem_cons.mp hd with e | e
  · subst e
    cases t with
    | true => exact (Pz.tL 0 (by have := h u hu; omega)).mono (by decide)
    | false => exact .int _ _
  · rw [List.mem_singleton.mp e]
    exact .int _ _
abbrev d_law (cG : Addr) : DS := (sSeq (sAsg (dCall sp_law_random [] (dCons (dV 0) (dCons (dI 2712) dNil))) (gN 1)) (sSeq (sAsg (dCall (sp_law_game cG) [] (dCons (dV 1) (dCons (dI 3) dNil))) (gN 2)) (sSeq (sAsg (dCall sp_law_below [] (dCons (dV 1) (dCons (dIf (dOr (dB (dOp rdEq (dGet "size" (dV 2)) (dI 2))) (dB (dOp rdEq (dCall sp_law_below [] (dCons (dV 1) (dCons (dI 6) dNil))) (dI 0)))) (dI 10) (dI 5)) dNil))) (gN 3)) (sSeq (sAsg (dCall sp_law_starts [] (dCons (dV 2) (dCons (dV 3) dNil))) (gN 4)) (sSeq (sAsg (dLc (iLs (dV 4)) (gN 6) dYes (dCall sp_law_rows [] (dCons (dV 2) (dCons (dV 6) dNil))) [6]) (gN 5)) (sSeq (sIf (dNot (dB (dCall spEq [] (dCons (dCall sp_ends_of [] (dCons (dV 2) (dCons (dV 3) dNil))) (dCons (dCall sp_law_counted [] (dCons (dLc (iLs (dV 5)) (gN 7) dYes (dOp rdIx (dV 7) (dNeg (dI 1))) [7]) dNil)) dNil))))) (sRet (dC (.bl false))) sNx) (sSeq (sAsg (dLc (iLs (dV 5)) (gN 7) dYes (dOp rdSub (dCB rdLen (dCons (dV 7) dNil)) (dI 1)) [7]) (gN 8)) (sSeq (sIf (dNot (dB (dCall spEq [] (dCons (dCall sp_rounds_of [] (dCons (dV 2) (dCons (dV 3) dNil))) (dCons (dCall sp_law_counted [] (dCons (dV 8) dNil)) dNil))))) (sRet (dC (.bl false))) sNx) (sRet (dCall spEq [] (dCons (dCall sp_longest [] (dCons (dV 2) (dCons (dV 3) dNil))) (dCons (dTup (dCons (dCB rdMax (dCons (dV 8) dNil)) (dCons (dOp rdIx (dV 4) (dIndexI (dV 8) (dCB rdMax (dCons (dV 8) dNil)))) dNil))) dNil))))))))))))
--  9 ['_law_script', '_law_d', '_law_game_here', '_law_most', '_law_starts_so', '_law_rows_here', '_law_start', '_law_row', '_law_laps']
theorem pure_law (cG : Addr) : ∀ ys M X P, sp_law ys M X P → d_law cG (startD 9 ys) M (bodyN M.length X P) := by
  rintro ys M X P ⟨l, rfl, hl, rfl, q⟩
  unfold d_law
  walk_at "ev"
  refine ⟨l, 2712, rfl, by decide, hl, by simp, ?_⟩
  walk_at "ev"
  have hM0 : ∀ c ∈ [Cell.rng], ClnC c := fun c hc => by rw [List.mem_singleton] at hc; subst hc; exact trivial
  refine use_game (j := 0) rfl (by decide) (by decide) hM0 fun n s ws ok hn3 => ?_
  have hn2 := ok.n2
  try walk_at "ev"
  refine use_most12 rfl fun m m0 m9 => ?_
  refine ⟨n, s, ws, m, rfl, by omega, hn3, m0, m9, hM0, ?_⟩
  have hlen := rowsUp_len m n.toNat
  have h1000 : (m + 1).toNat ^ n.toNat ≤ 10 ^ 3 := Nat.le_trans (Nat.pow_le_pow_left (by omega) _) (Nat.pow_le_pow_right (by decide) (by omega))
  have hr : ∀ r ∈ rowsUp m n.toNat, (r.length : Int) = n ∧ ∀ x ∈ r, 0 ≤ x ∧ x ≤ 9 := fun r hr => by
    obtain ⟨h1, h2⟩ := rowsUp_mem hr
    exact ⟨by omega, fun x hx => by have := h2 x hx; omega⟩
  refine ⟨_, rfl, lc_map (fun y => .lst (rowsT n s ws (y0 y) (endT n s ws (y0 y)))) hM0 (by rw [rowsD_len, hlen, sizeLine_val]; omega) (fun y hy => .lst (rowsT_cln _ _ _ _ _)) ?_ ?_⟩
  · intro y hy acc hacc Q hQ
    obtain ⟨r, hrm, rfl⟩ := List.mem_map.mp hy
    obtain ⟨h1, h2⟩ := hr r hrm
    rw [y0_iL] at hQ
    try walk_at "ev"
    have hM1 : ∀ c ∈ [Cell.rng] ++ [Cell.lst acc], ClnC c := clnC_app hM0 hacc
    exact use_law_rows ok hn3 h1 h2 hM1 hQ
  have eA : (rowsD (rowsUp m n.toNat)).map (fun y => D.lst (rowsT n s ws (y0 y) (endT n s ws (y0 y)))) = allD n s ws (rowsUp m n.toNat) := by
    unfold rowsD allD
    rw [List.map_map]
    refine List.map_congr_left fun r _ => ?_
    show D.lst (rowsT n s ws (y0 (.tup (iL r))) (endT n s ws (y0 (.tup (iL r))))) = _
    rw [y0_iL]
  rw [eA]
  have lenA : (allD n s ws (rowsUp m n.toNat)).length < sizeLine := by unfold allD; rw [List.length_map, hlen, sizeLine_val]; omega
  refine ⟨n, s, ws, m, rfl, ok, hn3, m0, m9, hM0, fun us u1 u2 u3 => ?_⟩
  refine ⟨_, rfl, lc_map lastD hM0 lenA (fun y hy => ?_) ?_ ?_⟩
  · obtain ⟨r, _, rfl⟩ := List.mem_map.mp hy
    show Cln ((atD (rowsT n s ws r (endT n s ws r)) (-1)).getD .non)
    rw [rowsT_last]
    exact cln_tL _
  · intro y hy acc hacc Q hQ
    obtain ⟨r, hrm, rfl⟩ := List.mem_map.mp hy
    have hQ : Q ((atD (rowsT n s ws r (endT n s ws r)) (-1)).getD .non) _ := hQ
    rw [rowsT_last] at hQ
    try walk_at "ev"
    exact ⟨_, rowsT_last n s ws r _, hQ⟩
  have eE : (allD n s ws (rowsUp m n.toNat)).map lastD = (endsA n s ws m).map (kD true) := by
    unfold allD endsA
    rw [List.map_map, List.map_map]
    refine List.map_congr_left fun r hrm => ?_
    obtain ⟨h1, h2⟩ := hr r hrm
    show (atD (rowsT n s ws r (endT n s ws r)) (-1)).getD .non = _
    rw [rowsT_last, ← (few_of ok hn3 h1 h2).2.1]
    rfl
  have hE : ∀ u ∈ endsA n s ws m, u.length = n.toNat ∧ TS.Bd cB u := fun u hu => by
    obtain ⟨r, hrm, rfl⟩ := List.mem_map.mp hu
    obtain ⟨h1, h2⟩ := hr r hrm
    exact ⟨(endV_ok ok hn3 h1 h2).1, (endV_ok ok hn3 h1 h2).2.1⟩
  have hEl : ∀ u ∈ endsA n s ws m, u ∈ endsL n s := fun u hu => by
    obtain ⟨r, hrm, rfl⟩ := List.mem_map.mp hu
    obtain ⟨h1, h2⟩ := hr r hrm
    exact (endV_ok ok hn3 h1 h2).2.2
  have lenE : (endsL n s).length = 6 := by unfold endsL; rw [List.length_map, List.length_range]
  rw [eE]
  refine ⟨true, endsA n s ws m, endsL n s, n.toNat, cB, rfl, (fun h => nomatch h), by omega, hE, hEl, by omega, hM0, fun vs v1 v2 v3 => ?_⟩
  refine use_eq (by rw [one_way hE u1 u2 u3 v1 v2 v3]) (pz_cnt (fun u hu => by rw [(hE u ((u2 u).mp hu)).1]; omega) (by have := nodup_le u1 fun u hu => hEl u ((u2 u).mp hu); omega)) hM0 ⟨_, rfl, ?_⟩
  rw [if_neg (by decide)]
  refine ⟨_, rfl, lc_map lapD hM0 lenA (fun y hy => ?_) ?_ ?_⟩
  · obtain ⟨r, _, rfl⟩ := List.mem_map.mp hy
    exact .int _
  · intro y hy acc hacc Q hQ
    obtain ⟨r, hrm, rfl⟩ := List.mem_map.mp hy
    try walk_at "ev"
    exact hQ
  have eL : (allD n s ws (rowsUp m n.toNat)).map lapD = iL ((rowsUp m n.toNat).map (lapI n s ws)) := by
    unfold allD iL
    rw [List.map_map, List.map_map]
    refine List.map_congr_left fun r hrm => ?_
    show D.int (((rowsT n s ws r (endT n s ws r)).length : Int) - 1) = .int ((endT n s ws r : Nat) : Int)
    rw [rowsT_len, show ((endT n s ws r + 1 : Nat) : Int) - 1 = ((endT n s ws r : Nat) : Int) by omega]
  have eK : iL ((rowsUp m n.toNat).map (lapI n s ws)) = (lapsA n s ws m).map (kD false) := by
    unfold iL lapsA
    rw [List.map_map, List.map_map]
    rfl
  have hL : ∀ u ∈ lapsA n s ws m, u.length = 1 ∧ TS.Bd cB u := fun u hu => by
    obtain ⟨r, hrm, rfl⟩ := List.mem_map.mp hu
    obtain ⟨h1, h2⟩ := hr r hrm
    refine ⟨rfl, fun x hx => ?_⟩
    rw [List.mem_singleton] at hx
    have := (few_of ok hn3 h1 h2).1
    show 0 ≤ x ∧ x < (10 : Int) ^ 30 + 1
    omega
  have hLl : ∀ u ∈ lapsA n s ws m, u ∈ (List.range 25).map (fun (t : Nat) => [(t : Int)]) := fun u hu => by
    obtain ⟨r, hrm, rfl⟩ := List.mem_map.mp hu
    obtain ⟨h1, h2⟩ := hr r hrm
    have := (few_of ok hn3 h1 h2).1
    exact List.mem_map.mpr ⟨endT n s ws r, List.mem_range.mpr (by omega), rfl⟩
  have lenL : ((List.range 25).map (fun (t : Nat) => [(t : Int)])).length = 25 := by rw [List.length_map, List.length_range]
  rw [eL]
  refine ⟨n, s, ws, m, rfl, ok, hn3, m0, m9, hM0, fun us u1 u2 u3 => ?_⟩
  refine ⟨false, lapsA n s ws m, _, 1, cB, by rw [eK], (fun _ => rfl), by omega, hL, hLl, by omega, hM0, fun vs v1 v2 v3 => ?_⟩
  refine use_eq (by rw [one_way hL u1 u2 u3 v1 v2 v3]) (pz_cnt (fun u hu => by rw [(hL u ((u2 u).mp hu)).1]; omega) (by have := nodup_le u1 fun u hu => hLl u ((u2 u).mp hu); omega)) hM0 ⟨_, rfl, ?_⟩
  rw [if_neg (by decide)]
  refine ⟨n, s, ws, m, rfl, ok, hn3, m0, m9, hM0, ?_⟩
  have hpos : 0 < (rowsUp m n.toNat).length := by rw [hlen]; exact Nat.pow_pos (by omega)
  obtain ⟨j, r, hj, ej, eb, hlt, hle⟩ := best_of (n := n) (s := s) (ws := ws) (L := rowsUp m n.toNat) ((rowsUp m n.toNat).length - 1) (by omega)
  rw [show (rowsUp m n.toNat).length - 1 + 1 = (rowsUp m n.toNat).length by omega, List.take_length] at eb
  have hne : (rowsUp m n.toNat).map (lapI n s ws) ≠ [] := fun e => by
    have := congrArg List.length e
    rw [List.length_map] at this
    simp at this
    rw [this] at hpos
    simp at hpos
  have hrm : r ∈ rowsUp m n.toNat := List.mem_of_getElem? ej
  have eM : lmax ((rowsUp m n.toNat).map (lapI n s ws)) = lapI n s ws r := by
    obtain ⟨z, hz, ez⟩ := List.mem_map.mp (lmax_mem hne)
    obtain ⟨i, hi⟩ := List.mem_iff_getElem?.mp hz
    have h1 := hle i z (by have := (List.getElem?_eq_some_iff.mp hi).1; omega) hi
    have h2 := le_lmax (List.mem_map.mpr ⟨r, hrm, rfl⟩ : lapI n s ws r ∈ (rowsUp m n.toNat).map (lapI n s ws))
    omega
  rw [eb]
  refine ⟨_, _, rfl, seqOf_lst _ _, hne, _, rfl, _, _, rfl, seqOf_lst _ _, hne, _, rfl, j, ?_, ?_, _, seqOf_lst _ _, .tup (iL r), ?_, by rw [sizeLine_val]; decide, use_eq ?_ ?_ hM0 (.same (q _))⟩
  · rw [eM, List.getElem?_map, ej]
    rfl
  · intro i z hi ez
    rw [List.getElem?_map] at ez
    obtain ⟨u, eu, rfl⟩ := Option.map_eq_some_iff.mp ez
    rw [eM]
    have := hlt i u hi eu
    omega
  · have hjl := (List.getElem?_eq_some_iff.mp ej).1
    have e1 := rowsD_get hjl
    rw [List.getD_eq_getElem?_getD, ej] at e1
    unfold atD ixN
    rw [if_pos (by omega), if_pos (by rw [rowsD_len]; omega)]
    exact e1
  · show D.tup [.int (lapI n s ws r), .tup (iL r)] = _
    rw [eM]
  · refine .tup 3 _ (fun d hd => ?_) (by simp)
    rcases List.mem_cons.mp hd with e | e
    · subst e; exact .int _ _
    · rw [List.mem_singleton.mp e]
      exact (Pz.tL 0 (by have := (hr r hrm).1; omega)).mono (by decide)
end Sw

/-! the text by places -/
namespace Lw
open PySem PySem.Spec PyProof.Rows L2 PD Sw
def topS (i : Nat) : Stmt := PySem.Challenge.pw_sweetsring_k12_whole_starts.main.body.getD i (.Pass ⟨0, 0, 0, 0⟩)
abbrev s_law_below : Stmt := topS 29
abbrev s_law_counted : Stmt := topS 36
abbrev s_law_equal : Stmt := topS 31
abbrev s_is_integer : Stmt := topS 10
abbrev s_is_from : Stmt := topS 11
abbrev s_Game_init : Stmt := inClass (topS 12) 0
abbrev s_law_pick : Stmt := topS 30
abbrev s_law_game : Stmt := topS 32
abbrev s_law_random : Stmt := topS 28
abbrev s_law_round : Stmt := topS 33
abbrev s_law_rows : Stmt := topS 34
abbrev s_law_starts : Stmt := topS 35
abbrev s_filled_by : Stmt := topS 14
abbrev s_passed : Stmt := topS 15
abbrev s_all_rows : Stmt := topS 17
abbrev s_check_few : Stmt := topS 21
abbrev s_counted : Stmt := topS 23
abbrev s_starts_of : Stmt := topS 22
abbrev s_ends_of : Stmt := topS 24
abbrev s_longest : Stmt := topS 26
abbrev s_rounds_of : Stmt := topS 25
abbrev s_law : Stmt := topS 37
abbrev s_p_children : Stmt := inClass (topS 12) 1
abbrev s_p_parts : Stmt := inClass (topS 12) 2
abbrev s_p_steps : Stmt := inClass (topS 12) 3
abbrev s_e_BadSteps : Stmt := inClass (topS 4) 0
theorem sc_law_below : FnScope ["_law_d", "_law_size", "_law_result"] ["_law_d", "_law_size"] (defScope s_law_below) := ⟨rfl, rfl, rfl, by decide +kernel, rfl, by decide +kernel, by decide +kernel⟩
theorem sc_law_counted : FnScope ["_law_things", "_law_thing"] ["_law_things"] (defScope s_law_counted) := ⟨rfl, rfl, rfl, by decide +kernel, rfl, by decide +kernel, by decide +kernel⟩
theorem sc_law_equal : FnScope ["_law_actual", "_law_expected", "_law_key", "_law_k"] ["_law_actual", "_law_expected"] (defScope s_law_equal) := ⟨rfl, rfl, rfl, by decide +kernel, rfl, by decide +kernel, by decide +kernel⟩
theorem sc_is_integer : FnScope ["value"] ["value"] (defScope s_is_integer) := ⟨rfl, rfl, rfl, by decide +kernel, rfl, by decide +kernel, by decide +kernel⟩
theorem sc_is_from : FnScope ["value", "low", "high"] ["value", "low", "high"] (defScope s_is_from) := ⟨rfl, rfl, rfl, by decide +kernel, rfl, by decide +kernel, by decide +kernel⟩
theorem sc_Game_init : FnScope ["self", "children", "parts", "steps", "index", "step"] ["self", "children", "parts", "steps"] (defScope s_Game_init) := ⟨rfl, rfl, rfl, by decide +kernel, rfl, by decide +kernel, by decide +kernel⟩
theorem sc_law_pick : FnScope ["_law_d", "_law_items"] ["_law_d", "_law_items"] (defScope s_law_pick) := ⟨rfl, rfl, rfl, by decide +kernel, rfl, by decide +kernel, by decide +kernel⟩
theorem sc_law_game : FnScope ["_law_d", "_law_most", "_law_children_so", "_law_parts_so", "_law_steps_so", "_law_step"] ["_law_d", "_law_most"] (defScope s_law_game) := ⟨rfl, rfl, rfl, by decide +kernel, rfl, by decide +kernel, by decide +kernel⟩
theorem sc_law_random : FnScope ["_law_script", "_law_salt", "_law_seed", "_law_cell"] ["_law_script", "_law_salt"] (defScope s_law_random) := ⟨rfl, rfl, rfl, by decide +kernel, rfl, by decide +kernel, by decide +kernel⟩
theorem sc_law_round : FnScope ["_law_game_here", "_law_sweets", "_law_parts_so", "_law_number", "_law_found", "_law_kept", "_law_child", "_law_step", "_law_other"] ["_law_game_here", "_law_sweets"] (defScope s_law_round) := ⟨rfl, rfl, rfl, by decide +kernel, rfl, by decide +kernel, by decide +kernel⟩
theorem sc_law_rows : FnScope ["_law_game_here", "_law_sweets", "_law_found", "_law_lap", "_law_later"] ["_law_game_here", "_law_sweets"] (defScope s_law_rows) := ⟨rfl, rfl, rfl, by decide +kernel, rfl, by decide +kernel, by decide +kernel⟩
theorem sc_law_starts : FnScope ["_law_game_here", "_law_most", "_law_found", "_law_child", "_law_longer", "_law_row", "_law_number"] ["_law_game_here", "_law_most"] (defScope s_law_starts) := ⟨rfl, rfl, rfl, by decide +kernel, rfl, by decide +kernel, by decide +kernel⟩
theorem sc_filled_by : FnScope ["game", "sweets", "number"] ["game", "sweets"] (defScope s_filled_by) := ⟨rfl, rfl, rfl, by decide +kernel, rfl, by decide +kernel, by decide +kernel⟩
theorem sc_passed : FnScope ["game", "sweets", "units", "number", "kept", "step", "at"] ["game", "sweets"] (defScope s_passed) := ⟨rfl, rfl, rfl, by decide +kernel, rfl, by decide +kernel, by decide +kernel⟩
theorem sc_all_rows : FnScope ["game", "sweets", "found", "later"] ["game", "sweets"] (defScope s_all_rows) := ⟨rfl, rfl, rfl, by decide +kernel, rfl, by decide +kernel, by decide +kernel⟩
theorem sc_check_few : FnScope ["game", "most"] ["game", "most"] (defScope s_check_few) := ⟨rfl, rfl, rfl, by decide +kernel, rfl, by decide +kernel, by decide +kernel⟩
theorem sc_counted : FnScope ["things", "found", "thing"] ["things"] (defScope s_counted) := ⟨rfl, rfl, rfl, by decide +kernel, rfl, by decide +kernel, by decide +kernel⟩
theorem sc_starts_of : FnScope ["game", "most", "found", "lap", "row", "number"] ["game", "most"] (defScope s_starts_of) := ⟨rfl, rfl, rfl, by decide +kernel, rfl, by decide +kernel, by decide +kernel⟩
theorem sc_ends_of : FnScope ["game", "most", "start"] ["game", "most"] (defScope s_ends_of) := ⟨rfl, rfl, rfl, by decide +kernel, rfl, by decide +kernel, by decide +kernel⟩
theorem sc_longest : FnScope ["game", "most", "best", "start", "rounds"] ["game", "most"] (defScope s_longest) := ⟨rfl, rfl, rfl, by decide +kernel, rfl, by decide +kernel, by decide +kernel⟩
theorem sc_rounds_of : FnScope ["game", "most", "start"] ["game", "most"] (defScope s_rounds_of) := ⟨rfl, rfl, rfl, by decide +kernel, rfl, by decide +kernel, by decide +kernel⟩
theorem sc_law : FnScope ["_law_script", "_law_d", "_law_game_here", "_law_most", "_law_starts_so", "_law_rows_here", "_law_start", "_law_row", "_law_laps"] ["_law_script"] (defScope s_law) := ⟨rfl, rfl, rfl, by decide +kernel, rfl, by decide +kernel, by decide +kernel⟩
theorem sc_p_steps : FnScope ["self"] ["self"] (defScope s_p_steps) := ⟨rfl, rfl, rfl, by decide +kernel, rfl, by decide +kernel, by decide +kernel⟩
theorem sc_p_parts : FnScope ["self"] ["self"] (defScope s_p_parts) := ⟨rfl, rfl, rfl, by decide +kernel, rfl, by decide +kernel, by decide +kernel⟩
theorem sc_p_children : FnScope ["self"] ["self"] (defScope s_p_children) := ⟨rfl, rfl, rfl, by decide +kernel, rfl, by decide +kernel, by decide +kernel⟩
structure Tx (K : PySem.W.Frag) (mg : Str → Option Value) (cl : Str → Addr) where
  dummy : True
  b_abs : mg "abs" = none
  b_all : mg "all" = none
  b_bool : mg "bool" = none
  b_dict : mg "dict" = none
  b_enumerate : mg "enumerate" = none
  b_int : mg "int" = none
  b_isinstance : mg "isinstance" = none
  b_len : mg "len" = none
  b_list : mg "list" = none
  b_max : mg "max" = none
  b_range : mg "range" = none
  b_set : mg "set" = none
  b_sorted : mg "sorted" = none
  b_str : mg "str" = none
  b_sum : mg "sum" = none
  b_tuple : mg "tuple" = none
  c_MOST_CHILDREN : ∃ t, mg "MOST_CHILDREN" = some (.int 12 t)
  c_MOST_FEW : ∃ t, mg "MOST_FEW" = some (.int 3 t)
  c_MOST_PARTS : ∃ t, mg "MOST_PARTS" = some (.int 9 t)
  c_MOST_START : ∃ t, mg "MOST_START" = some (.int 9 t)
  e_BadChildren : Er0 K mg "BadChildren" (cl "BadChildren")
  e_BadMost : Er0 K mg "BadMost" (cl "BadMost")
  e_BadParts : Er0 K mg "BadParts" (cl "BadParts")
  f_BadSteps : Addr
  e_BadSteps : PySem.ErrI.LowTxt K mg "BadSteps" "BadSteps.__init__" (cl "BadSteps") f_BadSteps
  e_TooMany : Er0 K mg "TooMany" (cl "TooMany")
section
variable {P : Program} {w : World} {K : PySem.W.Frag} {mg : Str → Option Value} {base : Heap} {cG cP : Addr} {cl : Str → Addr}
/-! _law_below -/
theorem ok_law_below {f : Addr} {fd : FuncData} (FF : FunD K "_law_below" "_law_below" (defArgs s_law_below) (defBody s_law_below) (defScope s_law_below) [] [] f fd) (T : Tx K mg cl) : FnOk P w K mg base (L2.CX P w) 3 f fd ["_law_d", "_law_size"] (upSp ⟨K, cG, cl⟩ sp_law_below) := by
  refine fn_okF (d := d_law_below) FF sc_law_below (fun ys M X P h => ?_) ?_ (pure_law_below)
  · first | (obtain ⟨_, e, _⟩ := h; rw [e]; rfl) | (obtain ⟨_, _, e, _⟩ := h; rw [e]; rfl) | (obtain ⟨_, _, _, e, _⟩ := h; rw [e]; rfl) | (obtain ⟨_, _, _, _, e, _⟩ := h; rw [e]; rfl) | (obtain ⟨_, _, _, _, _, e, _⟩ := h; rw [e]; rfl) | (obtain ⟨_, _, _, _, _, _, e, _⟩ := h; rw [e]; rfl) | (obtain ⟨_, _, _, _, _, _, _, e, _⟩ := h; rw [e]; rfl) | (obtain ⟨_, _, _, _, _, _, _, _, e, _⟩ := h; rw [e]; rfl) | (obtain ⟨_, _, _, _, _, _, _, _, _, e, _⟩ := h; rw [e]; rfl) | (obtain ⟨_, _, _, _, _, _, _, _, _, _, e, _⟩ := h; rw [e]; rfl) | (obtain ⟨_, _, _, _, _, _, _, _, _, _, _, e, _⟩ := h; rw [e]; rfl) | (obtain ⟨_, _, _, _, _, _, _, _, _, _, _, _, e, _⟩ := h; rw [e]; rfl) | (obtain ⟨_, _, _, _, _, _, _, _, _, _, _, _, _, e, _⟩ := h; rw [e]; rfl) | (obtain ⟨_, _, _, _, _, _, _, _, _, _, _, _, _, _, e, _⟩ := h; rw [e]; rfl) | (obtain ⟨_, _, _, _, _, _, _, _, _, _, _, _, _, _, _, e, _⟩ := h; rw [e]; rfl) | (obtain ⟨_, _, _, _, _, _, _, _, _, _, _, _, _, _, _, _, e, _⟩ := h; rw [e]; rfl)
  · intro cdv A outer sh H E hr
    exact (ss_open 0 (ss_cons (s_if (PW.pt (dw_and (t_eq hr.units (e_ix (de_v 0) de_int) de_int) (dw_and1 (t_gt (b_len T.b_len (da_cons (de_v 0) da_nil)) de_int)))) (ss_one (s_setL (de_popAt (de_v 0) de_int (pe_bm PySem.F.plainAttrs_list PySem.F.slot_list_pop PySem.F.type_list_pop mt_popAt (de_v 0) (pa_cons de_int pa_nil))) (de_v 0) de_int (ps_asg (de_popAt (de_v 0) de_int (pe_bm PySem.F.plainAttrs_list PySem.F.slot_list_pop PySem.F.type_list_pop mt_popAt (de_v 0) (pa_cons de_int pa_nil))) (pg_sub (de_v 0) de_int set_list)))) ss_nil)
  (ss_cons (s_if (t_gt (e_ix (de_v 0) de_int) de_int) (ss_cons (s_set (i := 2) sc_law_below.nd (e_mod (b_int T.b_int (da_cons (e_ix (de_v 0) de_int) da_nil)) (de_v 1)))
  (ss_cons (s_setL (e_div (e_ix (de_v 0) de_int) (de_v 1)) (de_v 0) de_int (ps_asg (e_div (e_ix (de_v 0) de_int) (de_v 1)) (pg_sub (de_v 0) de_int set_list)))
  (ss_one (s_ret (de_shut 0 (de_v 2)))))) ss_nil)
  (ss_cons (s_setL (e_mod (b_int T.b_int (da_cons (e_add (e_mul (e_ix (de_v 0) de_int) de_int) de_int) da_nil)) de_int) (de_v 0) de_int (ps_asg (e_mod (b_int T.b_int (da_cons (e_add (e_mul (e_ix (de_v 0) de_int) de_int) de_int) da_nil)) de_int) (pg_sub (de_v 0) de_int set_list)))
  (ss_one (s_ret (de_shut 0 (e_mod (b_int T.b_int (da_cons (e_div (e_ix (de_v 0) de_int) de_int) da_nil)) (de_v 1)))))))))
/-! _law_counted -/
theorem ok_law_counted {f : Addr} {fd : FuncData} (FF : FunD K "_law_counted" "_law_counted" (defArgs s_law_counted) (defBody s_law_counted) (defScope s_law_counted) [] [] f fd) (T : Tx K mg cl) : FnOk P w K mg base (L2.CX P w) 3 f fd ["_law_things"] (upSp ⟨K, cG, cl⟩ sp_law_counted) := by
  refine fn_okF (d := d_law_counted) FF sc_law_counted (fun ys M X P h => ?_) ?_ (pure_law_counted)
  · first | (obtain ⟨_, e, _⟩ := h; rw [e]; rfl) | (obtain ⟨_, _, e, _⟩ := h; rw [e]; rfl) | (obtain ⟨_, _, _, e, _⟩ := h; rw [e]; rfl) | (obtain ⟨_, _, _, _, e, _⟩ := h; rw [e]; rfl) | (obtain ⟨_, _, _, _, _, e, _⟩ := h; rw [e]; rfl) | (obtain ⟨_, _, _, _, _, _, e, _⟩ := h; rw [e]; rfl) | (obtain ⟨_, _, _, _, _, _, _, e, _⟩ := h; rw [e]; rfl) | (obtain ⟨_, _, _, _, _, _, _, _, e, _⟩ := h; rw [e]; rfl) | (obtain ⟨_, _, _, _, _, _, _, _, _, e, _⟩ := h; rw [e]; rfl) | (obtain ⟨_, _, _, _, _, _, _, _, _, _, e, _⟩ := h; rw [e]; rfl) | (obtain ⟨_, _, _, _, _, _, _, _, _, _, _, e, _⟩ := h; rw [e]; rfl) | (obtain ⟨_, _, _, _, _, _, _, _, _, _, _, _, e, _⟩ := h; rw [e]; rfl) | (obtain ⟨_, _, _, _, _, _, _, _, _, _, _, _, _, e, _⟩ := h; rw [e]; rfl) | (obtain ⟨_, _, _, _, _, _, _, _, _, _, _, _, _, _, e, _⟩ := h; rw [e]; rfl) | (obtain ⟨_, _, _, _, _, _, _, _, _, _, _, _, _, _, _, e, _⟩ := h; rw [e]; rfl) | (obtain ⟨_, _, _, _, _, _, _, _, _, _, _, _, _, _, _, _, e, _⟩ := h; rw [e]; rfl)
  · intro cdv A outer sh H E hr
    exact (ss_one (s_ret (de_lc (own := [("_law_thing", 1)]) rfl sc_law_counted.nd (tgt_name (by decide)) (i_lst (b_ss rfl hr.units T.b_sorted T.b_set (da_cons (de_v 0) da_nil))) (blkOk_by (own := [("_law_thing", 1)]) (by kernel_rfl)) (fun _ _ _ _ _ => (pg_name (i := 1) sc_law_counted.nd rfl (Or.inl rfl))) (fun _ _ _ _ _ => dts_nil) (fun _ _ _ _ _ => (de_tup (da_cons (de_v 1) (da_cons (de_countX (de_v 0) (de_v 1) (pe_bm PySem.F.plainAttrs_list PySem.F.slot_list_count PySem.F.type_list_count (mt_cntD (room65 hr)) (de_v 0) (pa_cons (de_v 1) pa_nil))) da_nil)))))))
/-! _law_equal -/
theorem ok_law_equal {f : Addr} {fd : FuncData} (D_law_equal : Dn K mg "_law_equal" s_law_equal ["_law_actual", "_law_expected"] [] [] f fd) (T : Tx K mg cl) : ∀ n, n ≤ 30 → FnOk P w K mg base (L2.CX P w) (n + 3) f fd ["_law_actual", "_law_expected"] (upSp ⟨K, cG, cl⟩ (sp_law_equal n)) := by
  have B : ∀ (k n : Nat) (sp : DSp), 2 ≤ k → n ≤ 30 → (∀ xs M X k, (∃ m, n = m + 1 ∧ sp_law_equal m xs M X k) → sp xs M X k) → FnOk P w K mg base (L2.CX P w) k f fd ["_law_actual", "_law_expected"] (upSp ⟨K, cG, cl⟩ sp) → FnOk P w K mg base (L2.CX P w) (k + 1) f fd ["_law_actual", "_law_expected"] (upSp ⟨K, cG, cl⟩ (sp_law_equal n)) := by
    intro k n sp hk hn hsp G_law_equal
    refine fn_okF D_law_equal.fn sc_law_equal (fun ys M X P ⟨x, y, e, _⟩ => by rw [e]; rfl) ?_ (pure_law_equal sp n hn hsp)
    intro cdv A outer sh H E hr
    exact (ss_cons (s_if (t_is (de_v 1) de_non) (ss_one (s_ret (e_is (de_v 0) de_non))) ss_nil)
  (ss_cons (s_if (dt_val (b_isi T.b_isinstance (da_cons (de_v 1) (da_cons (de_ty T.b_bool) da_nil)))) (ss_one (s_ret (de_and (b_isi T.b_isinstance (da_cons (de_v 0) (da_cons (de_ty T.b_bool) da_nil))) (de_one (e_eq hr.units (de_v 0) (de_v 1)))))) ss_nil)
  (ss_cons (s_if (dt_val (b_isi T.b_isinstance (da_cons (de_v 1) (da_cons (de_ty T.b_int) da_nil)))) (ss_one (s_ret (de_and (b_isi T.b_isinstance (da_cons (de_v 0) (da_cons (de_ty T.b_int) da_nil))) (de_and (de_not (b_isi T.b_isinstance (da_cons (de_v 0) (da_cons (de_ty T.b_bool) da_nil)))) (de_one (e_eq hr.units (de_v 0) (de_v 1))))))) ss_nil)
  (ss_cons (s_if (dt_val (b_isi T.b_isinstance (da_cons (de_v 1) (da_cons (de_ty T.b_str) da_nil)))) (ss_one (s_ret (de_and (b_isi T.b_isinstance (da_cons (de_v 0) (da_cons (de_ty T.b_str) da_nil))) (de_one (e_eq hr.units (de_v 0) (de_v 1)))))) ss_nil)
  (ss_cons (s_if (dt_val (b_isi T.b_isinstance (da_cons (de_v 1) (da_cons (de_ty T.b_dict) da_nil)))) (ss_cons s_never
  (ss_one s_never)) ss_nil)
  (ss_cons (s_if (t_ne hr.units (b_isi T.b_isinstance (da_cons (de_v 1) (da_cons (de_ty T.b_tuple) da_nil))) (b_isi T.b_isinstance (da_cons (de_v 0) (da_cons (de_ty T.b_tuple) da_nil)))) (ss_one (s_ret de_bl)) ss_nil)
  (ss_cons (s_if (t_ne hr.units (b_isi T.b_isinstance (da_cons (de_v 1) (da_cons (de_ty T.b_list) da_nil))) (b_isi T.b_isinstance (da_cons (de_v 0) (da_cons (de_ty T.b_list) da_nil)))) (ss_one (s_ret de_bl)) ss_nil)
  (ss_cons (s_if (t_ne hr.units (b_len T.b_len (da_cons (de_v 0) da_nil)) (b_len T.b_len (da_cons (de_v 1) da_nil))) (ss_one (s_ret de_bl)) ss_nil)
  (ss_one (s_ret (b_all rfl T.b_all (da_cons (de_lc (own := [("_law_k", 3)]) rfl sc_law_equal.nd (tgt_name (by decide)) (i_rng1 T.b_range (da_cons (b_len T.b_len (da_cons (de_v 1) da_nil)) da_nil)) (blkOk_by (own := [("_law_k", 3)]) (by kernel_rfl)) (fun _ _ _ _ _ => (pg_name (i := 3) sc_law_equal.nd rfl (Or.inl rfl))) (fun _ _ _ _ _ => dts_nil) (fun _ _ _ _ _ => (de_call G_law_equal hr D_law_equal.g D_law_equal.fn.kp D_law_equal.b takes0 (da_cons (e_ix (de_v 0) (de_v 3)) (da_cons (e_ix (de_v 1) (de_v 3)) da_nil))))) da_nil))))))))))))
  intro n
  induction n with
  | zero => intro hn; exact B 2 0 (fun _ _ _ _ => False) (Nat.le_refl _) hn (fun _ _ _ _ ⟨m, e, _⟩ => by omega) fn_false
  | succ n ih => intro hn; exact B (n + 3) (n + 1) (sp_law_equal n) (by omega) hn (fun xs M X k ⟨m, e, h⟩ => (show m = n by omega) ▸ h) (ih (by omega))
/-! is_integer -/
theorem ok_is_integer {f : Addr} {fd : FuncData} (FF : FunD K "is_integer" "is_integer" (defArgs s_is_integer) (defBody s_is_integer) (defScope s_is_integer) [] [] f fd) (T : Tx K mg cl) : FnOk P w K mg base (L2.CX P w) 3 f fd ["value"] (upSp ⟨K, cG, cl⟩ sp_is_integer) := by
  refine fn_okF (d := d_is_integer) FF sc_is_integer (fun ys M X P h => ?_) ?_ (pure_is_integer)
  · first | (obtain ⟨_, e, _⟩ := h; rw [e]; rfl) | (obtain ⟨_, _, e, _⟩ := h; rw [e]; rfl) | (obtain ⟨_, _, _, e, _⟩ := h; rw [e]; rfl) | (obtain ⟨_, _, _, _, e, _⟩ := h; rw [e]; rfl) | (obtain ⟨_, _, _, _, _, e, _⟩ := h; rw [e]; rfl) | (obtain ⟨_, _, _, _, _, _, e, _⟩ := h; rw [e]; rfl) | (obtain ⟨_, _, _, _, _, _, _, e, _⟩ := h; rw [e]; rfl) | (obtain ⟨_, _, _, _, _, _, _, _, e, _⟩ := h; rw [e]; rfl) | (obtain ⟨_, _, _, _, _, _, _, _, _, e, _⟩ := h; rw [e]; rfl) | (obtain ⟨_, _, _, _, _, _, _, _, _, _, e, _⟩ := h; rw [e]; rfl) | (obtain ⟨_, _, _, _, _, _, _, _, _, _, _, e, _⟩ := h; rw [e]; rfl) | (obtain ⟨_, _, _, _, _, _, _, _, _, _, _, _, e, _⟩ := h; rw [e]; rfl) | (obtain ⟨_, _, _, _, _, _, _, _, _, _, _, _, _, e, _⟩ := h; rw [e]; rfl) | (obtain ⟨_, _, _, _, _, _, _, _, _, _, _, _, _, _, e, _⟩ := h; rw [e]; rfl) | (obtain ⟨_, _, _, _, _, _, _, _, _, _, _, _, _, _, _, e, _⟩ := h; rw [e]; rfl) | (obtain ⟨_, _, _, _, _, _, _, _, _, _, _, _, _, _, _, _, e, _⟩ := h; rw [e]; rfl)
  · intro cdv A outer sh H E hr
    exact (ss_one (s_ret (de_and (b_isi T.b_isinstance (da_cons (de_v 0) (da_cons (de_ty T.b_int) da_nil))) (de_one (de_not (b_isi T.b_isinstance (da_cons (de_v 0) (da_cons (de_ty T.b_bool) da_nil))))))))
/-! is_from -/
theorem ok_is_from {f : Addr} {fd : FuncData} (FF : FunD K "is_from" "is_from" (defArgs s_is_from) (defBody s_is_from) (defScope s_is_from) [] [] f fd) {a_is_integer : Addr} {d_is_integer : FuncData} (D_is_integer : Dn K mg "is_integer" s_is_integer ["value"] [] [] a_is_integer d_is_integer) (G_is_integer : FnOk P w K mg base (L2.CX P w) 3 a_is_integer d_is_integer ["value"] (upSp ⟨K, cG, cl⟩ sp_is_integer)) : FnOk P w K mg base (L2.CX P w) 4 f fd ["value", "low", "high"] (upSp ⟨K, cG, cl⟩ sp_is_from) := by
  refine fn_okF (d := d_is_from) FF sc_is_from (fun ys M X P h => ?_) ?_ (pure_is_from)
  · first | (obtain ⟨_, e, _⟩ := h; rw [e]; rfl) | (obtain ⟨_, _, e, _⟩ := h; rw [e]; rfl) | (obtain ⟨_, _, _, e, _⟩ := h; rw [e]; rfl) | (obtain ⟨_, _, _, _, e, _⟩ := h; rw [e]; rfl) | (obtain ⟨_, _, _, _, _, e, _⟩ := h; rw [e]; rfl) | (obtain ⟨_, _, _, _, _, _, e, _⟩ := h; rw [e]; rfl) | (obtain ⟨_, _, _, _, _, _, _, e, _⟩ := h; rw [e]; rfl) | (obtain ⟨_, _, _, _, _, _, _, _, e, _⟩ := h; rw [e]; rfl) | (obtain ⟨_, _, _, _, _, _, _, _, _, e, _⟩ := h; rw [e]; rfl) | (obtain ⟨_, _, _, _, _, _, _, _, _, _, e, _⟩ := h; rw [e]; rfl) | (obtain ⟨_, _, _, _, _, _, _, _, _, _, _, e, _⟩ := h; rw [e]; rfl) | (obtain ⟨_, _, _, _, _, _, _, _, _, _, _, _, e, _⟩ := h; rw [e]; rfl) | (obtain ⟨_, _, _, _, _, _, _, _, _, _, _, _, _, e, _⟩ := h; rw [e]; rfl) | (obtain ⟨_, _, _, _, _, _, _, _, _, _, _, _, _, _, e, _⟩ := h; rw [e]; rfl) | (obtain ⟨_, _, _, _, _, _, _, _, _, _, _, _, _, _, _, e, _⟩ := h; rw [e]; rfl) | (obtain ⟨_, _, _, _, _, _, _, _, _, _, _, _, _, _, _, _, e, _⟩ := h; rw [e]; rfl)
  · intro cdv A outer sh H E hr
    exact (ss_one (s_ret (de_and (de_call G_is_integer (hr.mono (by decide)) D_is_integer.g D_is_integer.fn.kp D_is_integer.b (takes_of rfl rfl rfl rfl) (da_cons (de_v 0) da_nil)) (de_one (e_lele (de_v 1) (de_v 0) (de_v 2))))))
/-! Game.__init__ -/
theorem ok_Game_init {f : Addr} {fd : FuncData} (FF : FunD K "__init__" "Game.__init__" (defArgs s_Game_init) (defBody s_Game_init) (defScope s_Game_init) [] [] f fd) (T : Tx K mg cl) {aI : Addr} {dI : FuncData} (GM : Gm P w K mg base cG aI dI) {a_is_from : Addr} {d_is_from : FuncData} (D_is_from : Dn K mg "is_from" s_is_from ["value", "low", "high"] [] [] a_is_from d_is_from) (G_is_from : FnOk P w K mg base (L2.CX P w) 4 a_is_from d_is_from ["value", "low", "high"] (upSp ⟨K, cG, cl⟩ sp_is_from)) : FnOk P w K mg base (L2.CX P w) 5 f fd ["self", "children", "parts", "steps"] (upSp ⟨K, cG, cl⟩ (sp_Game_init cG)) := by
  refine fn_okF (d := d_Game_init cG) FF sc_Game_init (fun ys M X P h => ?_) ?_ (pure_Game_init cG)
  · first | (obtain ⟨_, e, _⟩ := h; rw [e]; rfl) | (obtain ⟨_, _, e, _⟩ := h; rw [e]; rfl) | (obtain ⟨_, _, _, e, _⟩ := h; rw [e]; rfl) | (obtain ⟨_, _, _, _, e, _⟩ := h; rw [e]; rfl) | (obtain ⟨_, _, _, _, _, e, _⟩ := h; rw [e]; rfl) | (obtain ⟨_, _, _, _, _, _, e, _⟩ := h; rw [e]; rfl) | (obtain ⟨_, _, _, _, _, _, _, e, _⟩ := h; rw [e]; rfl) | (obtain ⟨_, _, _, _, _, _, _, _, e, _⟩ := h; rw [e]; rfl) | (obtain ⟨_, _, _, _, _, _, _, _, _, e, _⟩ := h; rw [e]; rfl) | (obtain ⟨_, _, _, _, _, _, _, _, _, _, e, _⟩ := h; rw [e]; rfl) | (obtain ⟨_, _, _, _, _, _, _, _, _, _, _, e, _⟩ := h; rw [e]; rfl) | (obtain ⟨_, _, _, _, _, _, _, _, _, _, _, _, e, _⟩ := h; rw [e]; rfl) | (obtain ⟨_, _, _, _, _, _, _, _, _, _, _, _, _, e, _⟩ := h; rw [e]; rfl) | (obtain ⟨_, _, _, _, _, _, _, _, _, _, _, _, _, _, e, _⟩ := h; rw [e]; rfl) | (obtain ⟨_, _, _, _, _, _, _, _, _, _, _, _, _, _, _, e, _⟩ := h; rw [e]; rfl) | (obtain ⟨_, _, _, _, _, _, _, _, _, _, _, _, _, _, _, _, e, _⟩ := h; rw [e]; rfl)
  · intro cdv A outer sh H E hr
    exact (ss_cons (s_if (dt_not (dt_val (de_call G_is_from (hr.mono (by decide)) D_is_from.g D_is_from.fn.kp D_is_from.b (takes_of rfl rfl rfl rfl) (da_cons (de_v 1) (da_cons de_int (da_cons (de_globE T.c_MOST_CHILDREN) da_nil)))))) (ss_one (s_raise0 rfl (takes_of rfl rfl rfl rfl) T.e_BadChildren)) ss_nil)
  (ss_cons (s_if (dt_not (dt_val (de_call G_is_from (hr.mono (by decide)) D_is_from.g D_is_from.fn.kp D_is_from.b (takes_of rfl rfl rfl rfl) (da_cons (de_v 2) (da_cons de_int (da_cons (de_globE T.c_MOST_PARTS) da_nil)))))) (ss_one (s_raise0 rfl (takes_of rfl rfl rfl rfl) T.e_BadParts)) ss_nil)
  (ss_cons (s_if (PW.pt (dw_or (dt_not (dt_val (b_isi T.b_isinstance (da_cons (de_v 3) (da_cons (de_ty T.b_tuple) da_nil))))) (dw_or1 (dt_not (t_lelt de_int (b_len T.b_len (da_cons (de_v 3) da_nil)) (de_v 2)))))) (ss_one (s_raiseI rfl (takes_of rfl rfl rfl rfl) hr T.e_BadSteps de_non)) ss_nil)
  (ss_cons (s_for (passes_of rfl) rfl (i_enT T.b_enumerate (da_cons (de_v 3) da_nil)) (g_tup rfl (gs_cons (g_name (i := 4) sc_Game_init.nd) (gs_cons (g_name (i := 5) sc_Game_init.nd) gs_nil))) (ss_one (s_if (PW.pt (dw_or (dt_not (dt_val (de_call G_is_from (hr.mono (by decide)) D_is_from.g D_is_from.fn.kp D_is_from.b (takes_of rfl rfl rfl rfl) (da_cons (de_v 5) (da_cons de_int (da_cons (e_sub (de_v 1) de_int) da_nil)))))) (dw_or1 (PW.pt (dw_and (t_gt (de_v 4) de_int) (dw_and1 (t_le (de_v 5) (e_ix (de_v 3) (e_sub (de_v 4) de_int))))))))) (ss_one (s_raiseI rfl (takes_of rfl rfl rfl rfl) hr T.e_BadSteps (de_v 4))) ss_nil)))
  (ss_cons (s_put (de_v 0) (de_v 1) GM.cl GM.n_size)
  (ss_cons (s_put (de_v 0) (de_v 2) GM.cl GM.n_share)
  (ss_one (s_put (de_v 0) (de_v 3) GM.cl GM.n_ways))))))))
/-! _law_pick -/
theorem ok_law_pick {f : Addr} {fd : FuncData} (FF : FunD K "_law_pick" "_law_pick" (defArgs s_law_pick) (defBody s_law_pick) (defScope s_law_pick) [] [] f fd) (T : Tx K mg cl) {a_law_below : Addr} {d_law_below : FuncData} (D_law_below : Dn K mg "_law_below" s_law_below ["_law_d", "_law_size"] [] [] a_law_below d_law_below) (G_law_below : FnOk P w K mg base (L2.CX P w) 3 a_law_below d_law_below ["_law_d", "_law_size"] (upSp ⟨K, cG, cl⟩ sp_law_below)) : FnOk P w K mg base (L2.CX P w) 4 f fd ["_law_d", "_law_items"] (upSp ⟨K, cG, cl⟩ sp_law_pick) := by
  refine fn_okF (d := d_law_pick) FF sc_law_pick (fun ys M X P h => ?_) ?_ (pure_law_pick)
  · first | (obtain ⟨_, e, _⟩ := h; rw [e]; rfl) | (obtain ⟨_, _, e, _⟩ := h; rw [e]; rfl) | (obtain ⟨_, _, _, e, _⟩ := h; rw [e]; rfl) | (obtain ⟨_, _, _, _, e, _⟩ := h; rw [e]; rfl) | (obtain ⟨_, _, _, _, _, e, _⟩ := h; rw [e]; rfl) | (obtain ⟨_, _, _, _, _, _, e, _⟩ := h; rw [e]; rfl) | (obtain ⟨_, _, _, _, _, _, _, e, _⟩ := h; rw [e]; rfl) | (obtain ⟨_, _, _, _, _, _, _, _, e, _⟩ := h; rw [e]; rfl) | (obtain ⟨_, _, _, _, _, _, _, _, _, e, _⟩ := h; rw [e]; rfl) | (obtain ⟨_, _, _, _, _, _, _, _, _, _, e, _⟩ := h; rw [e]; rfl) | (obtain ⟨_, _, _, _, _, _, _, _, _, _, _, e, _⟩ := h; rw [e]; rfl) | (obtain ⟨_, _, _, _, _, _, _, _, _, _, _, _, e, _⟩ := h; rw [e]; rfl) | (obtain ⟨_, _, _, _, _, _, _, _, _, _, _, _, _, e, _⟩ := h; rw [e]; rfl) | (obtain ⟨_, _, _, _, _, _, _, _, _, _, _, _, _, _, e, _⟩ := h; rw [e]; rfl) | (obtain ⟨_, _, _, _, _, _, _, _, _, _, _, _, _, _, _, e, _⟩ := h; rw [e]; rfl) | (obtain ⟨_, _, _, _, _, _, _, _, _, _, _, _, _, _, _, _, e, _⟩ := h; rw [e]; rfl)
  · intro cdv A outer sh H E hr
    exact (ss_one (s_ret (e_ix (de_v 1) (de_call G_law_below (hr.mono (by decide)) D_law_below.g D_law_below.fn.kp D_law_below.b (takes_of rfl rfl rfl rfl) (da_cons (de_v 0) (da_cons (b_len T.b_len (da_cons (de_v 1) da_nil)) da_nil))))))
/-! _law_game -/
theorem ok_law_game {f : Addr} {fd : FuncData} (FF : FunD K "_law_game" "_law_game" (defArgs s_law_game) (defBody s_law_game) (defScope s_law_game) [] [] f fd) (T : Tx K mg cl) {aI : Addr} {dI : FuncData} (GM : Gm P w K mg base cG aI dI) (G_Game_init : FnOk P w K mg base (L2.CX P w) 5 aI dI ["self", "children", "parts", "steps"] (upSp ⟨K, cG, cl⟩ (sp_Game_init cG))) {a_law_below : Addr} {d_law_below : FuncData} (D_law_below : Dn K mg "_law_below" s_law_below ["_law_d", "_law_size"] [] [] a_law_below d_law_below) (G_law_below : FnOk P w K mg base (L2.CX P w) 3 a_law_below d_law_below ["_law_d", "_law_size"] (upSp ⟨K, cG, cl⟩ sp_law_below)) {a_law_pick : Addr} {d_law_pick : FuncData} (D_law_pick : Dn K mg "_law_pick" s_law_pick ["_law_d", "_law_items"] [] [] a_law_pick d_law_pick) (G_law_pick : FnOk P w K mg base (L2.CX P w) 4 a_law_pick d_law_pick ["_law_d", "_law_items"] (upSp ⟨K, cG, cl⟩ sp_law_pick)) : FnOk P w K mg base (L2.CX P w) 7 f fd ["_law_d", "_law_most"] (upSp ⟨K, cG, cl⟩ (sp_law_game cG)) := by
  refine fn_okF (d := d_law_game cG) FF sc_law_game (fun ys M X P h => ?_) ?_ (pure_law_game cG)
  · first | (obtain ⟨_, e, _⟩ := h; rw [e]; rfl) | (obtain ⟨_, _, e, _⟩ := h; rw [e]; rfl) | (obtain ⟨_, _, _, e, _⟩ := h; rw [e]; rfl) | (obtain ⟨_, _, _, _, e, _⟩ := h; rw [e]; rfl) | (obtain ⟨_, _, _, _, _, e, _⟩ := h; rw [e]; rfl) | (obtain ⟨_, _, _, _, _, _, e, _⟩ := h; rw [e]; rfl) | (obtain ⟨_, _, _, _, _, _, _, e, _⟩ := h; rw [e]; rfl) | (obtain ⟨_, _, _, _, _, _, _, _, e, _⟩ := h; rw [e]; rfl) | (obtain ⟨_, _, _, _, _, _, _, _, _, e, _⟩ := h; rw [e]; rfl) | (obtain ⟨_, _, _, _, _, _, _, _, _, _, e, _⟩ := h; rw [e]; rfl) | (obtain ⟨_, _, _, _, _, _, _, _, _, _, _, e, _⟩ := h; rw [e]; rfl) | (obtain ⟨_, _, _, _, _, _, _, _, _, _, _, _, e, _⟩ := h; rw [e]; rfl) | (obtain ⟨_, _, _, _, _, _, _, _, _, _, _, _, _, e, _⟩ := h; rw [e]; rfl) | (obtain ⟨_, _, _, _, _, _, _, _, _, _, _, _, _, _, e, _⟩ := h; rw [e]; rfl) | (obtain ⟨_, _, _, _, _, _, _, _, _, _, _, _, _, _, _, e, _⟩ := h; rw [e]; rfl) | (obtain ⟨_, _, _, _, _, _, _, _, _, _, _, _, _, _, _, _, e, _⟩ := h; rw [e]; rfl)
  · intro cdv A outer sh H E hr
    exact (ss_cons (s_par (i := 2) (j := 3) rfl sc_law_game.nd (da_cons (e_add de_int (de_call G_law_below (hr.mono (by decide)) D_law_below.g D_law_below.fn.kp D_law_below.b (takes_of rfl rfl rfl rfl) (da_cons (de_v 0) (da_cons (e_sub (de_v 1) de_int) da_nil)))) (da_cons (e_add de_int (de_call G_law_below (hr.mono (by decide)) D_law_below.g D_law_below.fn.kp D_law_below.b (takes_of rfl rfl rfl rfl) (da_cons (de_v 0) (da_cons (de_call G_law_pick (hr.mono (by decide)) D_law_pick.g D_law_pick.fn.kp D_law_pick.b (takes_of rfl rfl rfl rfl) (da_cons (de_v 0) (da_cons (de_lst (da_cons de_int (da_cons de_int (da_cons de_int da_nil)))) da_nil))) da_nil)))) da_nil)))
  (ss_cons (s_set (i := 4) sc_law_game.nd (de_newL da_nil))
  (ss_cons (s_for (passes_of rfl) rfl (i_rng2 T.b_range (da_cons de_int (da_cons (de_v 2) da_nil))) (g_name (i := 5) sc_law_game.nd) (ss_one (s_if (PW.pt (dw_and (t_lt (b_len T.b_len (da_cons (de_v 4) da_nil)) (e_sub (de_v 3) de_int)) (dw_and1 (t_eq hr.units (de_call G_law_below (hr.mono (by decide)) D_law_below.g D_law_below.fn.kp D_law_below.b (takes_of rfl rfl rfl rfl) (da_cons (de_v 0) (da_cons de_int da_nil))) de_int)))) (ss_one (s_expr (de_app (de_v 4) (de_v 5) rfl rfl (pe_bm PySem.F.plainAttrs_list PySem.F.slot_list_append PySem.F.type_list_append mt_append (de_v 4) (pa_cons (de_v 5) pa_nil))))) ss_nil)))
  (ss_cons (s_frz 4 (s_if (t_eq hr.units (de_v 4) (de_lst da_nil)) (ss_one (s_set (i := 4) sc_law_game.nd (de_lst (da_cons (e_add de_int (de_call G_law_below (hr.mono (by decide)) D_law_below.g D_law_below.fn.kp D_law_below.b (takes_of rfl rfl rfl rfl) (da_cons (de_v 0) (da_cons (e_sub (de_v 2) de_int) da_nil)))) da_nil)))) ss_nil))
  (ss_one (s_ret (de_makeG rfl GM.mkg G_Game_init (hr.mono (by decide)) GM.gC GM.bi (takes_of rfl rfl rfl rfl) (da_cons (de_v 2) (da_cons (de_v 3) (da_cons (b_tup T.b_tuple (da_cons (de_v 4) da_nil)) da_nil))))))))))
/-! _law_random -/
theorem ok_law_random {f : Addr} {fd : FuncData} (FF : FunD K "_law_random" "_law_random" (defArgs s_law_random) (defBody s_law_random) (defScope s_law_random) [] [] f fd) (T : Tx K mg cl) : FnOk P w K mg base (L2.CX P w) 3 f fd ["_law_script", "_law_salt"] (upSp ⟨K, cG, cl⟩ sp_law_random) := by
  refine fn_okF (d := d_law_random) FF sc_law_random (fun ys M X P h => ?_) ?_ (pure_law_random)
  · first | (obtain ⟨_, e, _⟩ := h; rw [e]; rfl) | (obtain ⟨_, _, e, _⟩ := h; rw [e]; rfl) | (obtain ⟨_, _, _, e, _⟩ := h; rw [e]; rfl) | (obtain ⟨_, _, _, _, e, _⟩ := h; rw [e]; rfl) | (obtain ⟨_, _, _, _, _, e, _⟩ := h; rw [e]; rfl) | (obtain ⟨_, _, _, _, _, _, e, _⟩ := h; rw [e]; rfl) | (obtain ⟨_, _, _, _, _, _, _, e, _⟩ := h; rw [e]; rfl) | (obtain ⟨_, _, _, _, _, _, _, _, e, _⟩ := h; rw [e]; rfl) | (obtain ⟨_, _, _, _, _, _, _, _, _, e, _⟩ := h; rw [e]; rfl) | (obtain ⟨_, _, _, _, _, _, _, _, _, _, e, _⟩ := h; rw [e]; rfl) | (obtain ⟨_, _, _, _, _, _, _, _, _, _, _, e, _⟩ := h; rw [e]; rfl) | (obtain ⟨_, _, _, _, _, _, _, _, _, _, _, _, e, _⟩ := h; rw [e]; rfl) | (obtain ⟨_, _, _, _, _, _, _, _, _, _, _, _, _, e, _⟩ := h; rw [e]; rfl) | (obtain ⟨_, _, _, _, _, _, _, _, _, _, _, _, _, _, e, _⟩ := h; rw [e]; rfl) | (obtain ⟨_, _, _, _, _, _, _, _, _, _, _, _, _, _, _, e, _⟩ := h; rw [e]; rfl) | (obtain ⟨_, _, _, _, _, _, _, _, _, _, _, _, _, _, _, _, e, _⟩ := h; rw [e]; rfl)
  · intro cdv A outer sh H E hr
    exact (ss_cons (s_set (i := 2) sc_law_random.nd (de_v 1))
  (ss_cons (s_for (passes_of rfl) rfl (i_scr (de_v 0)) (g_name (i := 3) sc_law_random.nd) (ss_one (s_set (i := 2) sc_law_random.nd (e_mod (b_int T.b_int (da_cons (e_add (e_mul (de_v 2) de_int) (b_abs T.b_abs (da_cons (de_v 3) da_nil))) da_nil)) de_int))))
  (ss_one (s_ret (de_toRng (de_newCat (de_lst (da_cons (de_v 2) (da_cons de_int da_nil))) (de_lc (own := [("_law_cell", 3)]) rfl sc_law_random.nd (tgt_name (by decide)) (i_scr (de_v 0)) (blkOk_by (own := [("_law_cell", 3)]) (by kernel_rfl)) (fun _ _ _ _ _ => (pg_name (i := 3) sc_law_random.nd rfl (Or.inl rfl))) (fun _ _ _ _ _ => (dts_one (t_ge (de_v 3) (e_pow de_int de_int)))) (fun _ _ _ _ _ => (de_v 3)))))))))
/-! _law_round -/
theorem ok_law_round {f : Addr} {fd : FuncData} (FF : FunD K "_law_round" "_law_round" (defArgs s_law_round) (defBody s_law_round) (defScope s_law_round) [] [] f fd) (T : Tx K mg cl) {aI : Addr} {dI : FuncData} (GM : Gm P w K mg base cG aI dI) : FnOk P w K mg base (L2.CX P w) 3 f fd ["_law_game_here", "_law_sweets"] (upSp ⟨K, cG, cl⟩ sp_law_round) := by
  refine fn_okF (d := d_law_round) FF sc_law_round (fun ys M X P h => ?_) ?_ (pure_law_round)
  · first | (obtain ⟨_, e, _⟩ := h; rw [e]; rfl) | (obtain ⟨_, _, e, _⟩ := h; rw [e]; rfl) | (obtain ⟨_, _, _, e, _⟩ := h; rw [e]; rfl) | (obtain ⟨_, _, _, _, e, _⟩ := h; rw [e]; rfl) | (obtain ⟨_, _, _, _, _, e, _⟩ := h; rw [e]; rfl) | (obtain ⟨_, _, _, _, _, _, e, _⟩ := h; rw [e]; rfl) | (obtain ⟨_, _, _, _, _, _, _, e, _⟩ := h; rw [e]; rfl) | (obtain ⟨_, _, _, _, _, _, _, _, e, _⟩ := h; rw [e]; rfl) | (obtain ⟨_, _, _, _, _, _, _, _, _, e, _⟩ := h; rw [e]; rfl) | (obtain ⟨_, _, _, _, _, _, _, _, _, _, e, _⟩ := h; rw [e]; rfl) | (obtain ⟨_, _, _, _, _, _, _, _, _, _, _, e, _⟩ := h; rw [e]; rfl) | (obtain ⟨_, _, _, _, _, _, _, _, _, _, _, _, e, _⟩ := h; rw [e]; rfl) | (obtain ⟨_, _, _, _, _, _, _, _, _, _, _, _, _, e, _⟩ := h; rw [e]; rfl) | (obtain ⟨_, _, _, _, _, _, _, _, _, _, _, _, _, _, e, _⟩ := h; rw [e]; rfl) | (obtain ⟨_, _, _, _, _, _, _, _, _, _, _, _, _, _, _, e, _⟩ := h; rw [e]; rfl) | (obtain ⟨_, _, _, _, _, _, _, _, _, _, _, _, _, _, _, _, e, _⟩ := h; rw [e]; rfl)
  · intro cdv A outer sh H E hr
    exact (ss_cons (s_setLc (i := 2) (own := [("_law_number", 3)]) rfl sc_law_round.nd (tgt_name (by decide)) (i_tup (de_v 1)) (blkOk_by (own := [("_law_number", 3)]) (by kernel_rfl)) (fun _ _ _ _ _ => (pg_name (i := 3) sc_law_round.nd rfl (Or.inl rfl))) (fun _ _ _ _ _ => dts_nil) (fun _ _ _ _ _ => (e_add (e_div (de_v 3) (de_prop (de_v 0) GM.cl GM.p_parts GM.k_parts (hr.mono (by decide) : Room 2 _) GM.b_parts passL)) (b_int T.b_int (da_cons (e_gt (e_mod (de_v 3) (de_prop (de_v 0) GM.cl GM.p_parts GM.k_parts (hr.mono (by decide) : Room 2 _) GM.b_parts passL)) de_int) da_nil)))) (sw_true rfl rfl rfl (by decide +kernel)))
  (ss_cons (s_par (i := 4) (j := 5) rfl sc_law_round.nd (da_cons (de_newRep (de_lst (da_cons de_int da_nil)) (b_len T.b_len (da_cons (de_v 1) da_nil))) (da_cons (e_sub (de_prop (de_v 0) GM.cl GM.p_parts GM.k_parts (hr.mono (by decide) : Room 2 _) GM.b_parts passL) (b_len T.b_len (da_cons (de_prop (de_v 0) GM.cl GM.p_steps GM.k_steps (hr.mono (by decide) : Room 2 _) GM.b_steps passL) da_nil))) da_nil)))
  (ss_cons (s_for (passes_of rfl) rfl (i_rng1 T.b_range (da_cons (b_len T.b_len (da_cons (de_v 1) da_nil)) da_nil)) (g_name (i := 6) sc_law_round.nd) (ss_cons (s_setL (e_add (e_ix (de_v 4) (de_v 6)) (e_mul (e_ix (de_v 2) (de_v 6)) (de_v 5))) (de_v 4) (de_v 6) (ps_asg (e_add (e_ix (de_v 4) (de_v 6)) (e_mul (e_ix (de_v 2) (de_v 6)) (de_v 5))) (pg_sub (de_v 4) (de_v 6) set_list)))
  (ss_one (s_for (passes_of rfl) rfl (i_tup (de_prop (de_v 0) GM.cl GM.p_steps GM.k_steps (hr.mono (by decide) : Room 2 _) GM.b_steps passL)) (g_name (i := 7) sc_law_round.nd) (ss_cons (s_set (i := 8) sc_law_round.nd (e_mod (e_add (de_v 6) (de_v 7)) (b_len T.b_len (da_cons (de_v 1) da_nil))))
  (ss_one (s_setL (e_add (e_ix (de_v 4) (de_v 8)) (e_ix (de_v 2) (de_v 6))) (de_v 4) (de_v 8) (ps_asg (e_add (e_ix (de_v 4) (de_v 8)) (e_ix (de_v 2) (de_v 6))) (pg_sub (de_v 4) (de_v 8) set_list)))))))))
  (ss_one (s_ret (b_tup T.b_tuple (da_cons (de_v 4) da_nil)))))))
/-! _law_rows -/
theorem ok_law_rows {f : Addr} {fd : FuncData} (FF : FunD K "_law_rows" "_law_rows" (defArgs s_law_rows) (defBody s_law_rows) (defScope s_law_rows) [] [] f fd) (T : Tx K mg cl) {a_law_round : Addr} {d_law_round : FuncData} (D_law_round : Dn K mg "_law_round" s_law_round ["_law_game_here", "_law_sweets"] [] [] a_law_round d_law_round) (G_law_round : FnOk P w K mg base (L2.CX P w) 3 a_law_round d_law_round ["_law_game_here", "_law_sweets"] (upSp ⟨K, cG, cl⟩ sp_law_round)) : FnOk P w K mg base (L2.CX P w) 4 f fd ["_law_game_here", "_law_sweets"] (upSp ⟨K, cG, cl⟩ sp_law_rows) := by
  refine fn_okF (d := d_law_rows) FF sc_law_rows (fun ys M X P h => ?_) ?_ (pure_law_rows)
  · first | (obtain ⟨_, e, _⟩ := h; rw [e]; rfl) | (obtain ⟨_, _, e, _⟩ := h; rw [e]; rfl) | (obtain ⟨_, _, _, e, _⟩ := h; rw [e]; rfl) | (obtain ⟨_, _, _, _, e, _⟩ := h; rw [e]; rfl) | (obtain ⟨_, _, _, _, _, e, _⟩ := h; rw [e]; rfl) | (obtain ⟨_, _, _, _, _, _, e, _⟩ := h; rw [e]; rfl) | (obtain ⟨_, _, _, _, _, _, _, e, _⟩ := h; rw [e]; rfl) | (obtain ⟨_, _, _, _, _, _, _, _, e, _⟩ := h; rw [e]; rfl) | (obtain ⟨_, _, _, _, _, _, _, _, _, e, _⟩ := h; rw [e]; rfl) | (obtain ⟨_, _, _, _, _, _, _, _, _, _, e, _⟩ := h; rw [e]; rfl) | (obtain ⟨_, _, _, _, _, _, _, _, _, _, _, e, _⟩ := h; rw [e]; rfl) | (obtain ⟨_, _, _, _, _, _, _, _, _, _, _, _, e, _⟩ := h; rw [e]; rfl) | (obtain ⟨_, _, _, _, _, _, _, _, _, _, _, _, _, e, _⟩ := h; rw [e]; rfl) | (obtain ⟨_, _, _, _, _, _, _, _, _, _, _, _, _, _, e, _⟩ := h; rw [e]; rfl) | (obtain ⟨_, _, _, _, _, _, _, _, _, _, _, _, _, _, _, e, _⟩ := h; rw [e]; rfl) | (obtain ⟨_, _, _, _, _, _, _, _, _, _, _, _, _, _, _, _, e, _⟩ := h; rw [e]; rfl)
  · intro cdv A outer sh H E hr
    exact (ss_cons (s_set (i := 2) sc_law_rows.nd (de_newL (da_cons (de_v 1) da_nil)))
  (ss_cons (s_for (passes_of rfl) rfl (i_rng1 T.b_range (da_cons de_int da_nil)) (g_name (i := 3) sc_law_rows.nd) (ss_cons (s_set (i := 4) sc_law_rows.nd (de_call G_law_round (hr.mono (by decide)) D_law_round.g D_law_round.fn.kp D_law_round.b (takes_of rfl rfl rfl rfl) (da_cons (de_v 0) (da_cons (e_ix (de_v 2) (e_neg de_int)) da_nil))))
  (ss_cons (s_if (t_eq hr.units (de_v 4) (e_ix (de_v 2) (e_neg de_int))) (ss_one (s_frz 2 (s_ret (de_v 2)))) ss_nil)
  (ss_one (s_expr (de_app (de_v 2) (de_v 4) rfl rfl (pe_bm PySem.F.plainAttrs_list PySem.F.slot_list_append PySem.F.type_list_append mt_append (de_v 2) (pa_cons (de_v 4) pa_nil))))))))
  (ss_one (s_frz 2 (s_ret (de_v 2))))))
/-! _law_starts -/
theorem ok_law_starts {f : Addr} {fd : FuncData} (FF : FunD K "_law_starts" "_law_starts" (defArgs s_law_starts) (defBody s_law_starts) (defScope s_law_starts) [] [] f fd) (T : Tx K mg cl) {aI : Addr} {dI : FuncData} (GM : Gm P w K mg base cG aI dI) : FnOk P w K mg base (L2.CX P w) 3 f fd ["_law_game_here", "_law_most"] (upSp ⟨K, cG, cl⟩ sp_law_starts) := by
  refine fn_okF (d := d_law_starts) FF sc_law_starts (fun ys M X P h => ?_) ?_ (pure_law_starts)
  · first | (obtain ⟨_, e, _⟩ := h; rw [e]; rfl) | (obtain ⟨_, _, e, _⟩ := h; rw [e]; rfl) | (obtain ⟨_, _, _, e, _⟩ := h; rw [e]; rfl) | (obtain ⟨_, _, _, _, e, _⟩ := h; rw [e]; rfl) | (obtain ⟨_, _, _, _, _, e, _⟩ := h; rw [e]; rfl) | (obtain ⟨_, _, _, _, _, _, e, _⟩ := h; rw [e]; rfl) | (obtain ⟨_, _, _, _, _, _, _, e, _⟩ := h; rw [e]; rfl) | (obtain ⟨_, _, _, _, _, _, _, _, e, _⟩ := h; rw [e]; rfl) | (obtain ⟨_, _, _, _, _, _, _, _, _, e, _⟩ := h; rw [e]; rfl) | (obtain ⟨_, _, _, _, _, _, _, _, _, _, e, _⟩ := h; rw [e]; rfl) | (obtain ⟨_, _, _, _, _, _, _, _, _, _, _, e, _⟩ := h; rw [e]; rfl) | (obtain ⟨_, _, _, _, _, _, _, _, _, _, _, _, e, _⟩ := h; rw [e]; rfl) | (obtain ⟨_, _, _, _, _, _, _, _, _, _, _, _, _, e, _⟩ := h; rw [e]; rfl) | (obtain ⟨_, _, _, _, _, _, _, _, _, _, _, _, _, _, e, _⟩ := h; rw [e]; rfl) | (obtain ⟨_, _, _, _, _, _, _, _, _, _, _, _, _, _, _, e, _⟩ := h; rw [e]; rfl) | (obtain ⟨_, _, _, _, _, _, _, _, _, _, _, _, _, _, _, _, e, _⟩ := h; rw [e]; rfl)
  · intro cdv A outer sh H E hr
    exact (ss_cons (s_set (i := 2) sc_law_starts.nd (de_lst (da_cons (de_tup da_nil) da_nil)))
  (ss_cons (s_for (passes_of rfl) rfl (i_rng1 T.b_range (da_cons (de_prop (de_v 0) GM.cl GM.p_children GM.k_children (hr.mono (by decide) : Room 2 _) GM.b_children passL) da_nil)) (g_name (i := 3) sc_law_starts.nd) (ss_cons (s_set (i := 4) sc_law_starts.nd (de_lst da_nil))
  (ss_cons (s_for (passes_of rfl) rfl (i_lst (de_v 2)) (g_name (i := 5) sc_law_starts.nd) (ss_one (s_set (i := 4) sc_law_starts.nd (e_cat (de_v 4) (de_lc (own := [("_law_number", 6)]) rfl sc_law_starts.nd (tgt_name (by decide)) (i_rng1 T.b_range (da_cons (e_add (de_v 1) de_int) da_nil)) (blkOk_by (own := [("_law_number", 6)]) (by kernel_rfl)) (fun _ _ _ _ _ => (pg_name (i := 6) sc_law_starts.nd rfl (Or.inl rfl))) (fun _ _ _ _ _ => dts_nil) (fun _ _ _ _ _ => (e_catT (de_v 5) (de_tup (da_cons (de_v 6) da_nil)))))))))
  (ss_one (s_set (i := 2) sc_law_starts.nd (de_v 4))))))
  (ss_one (s_ret (de_v 2)))))
/-! filled_by -/
theorem ok_filled_by {f : Addr} {fd : FuncData} (FF : FunD K "filled_by" "filled_by" (defArgs s_filled_by) (defBody s_filled_by) (defScope s_filled_by) [] [] f fd) (T : Tx K mg cl) {aI : Addr} {dI : FuncData} (GM : Gm P w K mg base cG aI dI) : FnOk P w K mg base (L2.CX P w) 3 f fd ["game", "sweets"] (upSp ⟨K, cG, cl⟩ sp_filled_by) := by
  refine fn_okF (d := d_filled_by) FF sc_filled_by (fun ys M X P h => ?_) ?_ (pure_filled_by)
  · first | (obtain ⟨_, e, _⟩ := h; rw [e]; rfl) | (obtain ⟨_, _, e, _⟩ := h; rw [e]; rfl) | (obtain ⟨_, _, _, e, _⟩ := h; rw [e]; rfl) | (obtain ⟨_, _, _, _, e, _⟩ := h; rw [e]; rfl) | (obtain ⟨_, _, _, _, _, e, _⟩ := h; rw [e]; rfl) | (obtain ⟨_, _, _, _, _, _, e, _⟩ := h; rw [e]; rfl) | (obtain ⟨_, _, _, _, _, _, _, e, _⟩ := h; rw [e]; rfl) | (obtain ⟨_, _, _, _, _, _, _, _, e, _⟩ := h; rw [e]; rfl) | (obtain ⟨_, _, _, _, _, _, _, _, _, e, _⟩ := h; rw [e]; rfl) | (obtain ⟨_, _, _, _, _, _, _, _, _, _, e, _⟩ := h; rw [e]; rfl) | (obtain ⟨_, _, _, _, _, _, _, _, _, _, _, e, _⟩ := h; rw [e]; rfl) | (obtain ⟨_, _, _, _, _, _, _, _, _, _, _, _, e, _⟩ := h; rw [e]; rfl) | (obtain ⟨_, _, _, _, _, _, _, _, _, _, _, _, _, e, _⟩ := h; rw [e]; rfl) | (obtain ⟨_, _, _, _, _, _, _, _, _, _, _, _, _, _, e, _⟩ := h; rw [e]; rfl) | (obtain ⟨_, _, _, _, _, _, _, _, _, _, _, _, _, _, _, e, _⟩ := h; rw [e]; rfl) | (obtain ⟨_, _, _, _, _, _, _, _, _, _, _, _, _, _, _, _, e, _⟩ := h; rw [e]; rfl)
  · intro cdv A outer sh H E hr
    exact (ss_one (s_ret (b_tup T.b_tuple (da_cons (de_lc (own := [("number", 2)]) rfl sc_filled_by.nd (tgt_name (by decide)) (i_tup (de_v 1)) (blkOk_by (own := [("number", 2)]) (by kernel_rfl)) (fun _ _ _ _ _ => (pg_name (i := 2) sc_filled_by.nd rfl (Or.inl rfl))) (fun _ _ _ _ _ => dts_nil) (fun _ _ _ _ _ => (e_mul (e_div (e_sub (e_add (de_v 2) (de_get (de_v 0) GM.cl GM.n_share)) de_int) (de_get (de_v 0) GM.cl GM.n_share)) (de_get (de_v 0) GM.cl GM.n_share)))) da_nil))))
/-! passed -/
theorem ok_passed {f : Addr} {fd : FuncData} (FF : FunD K "passed" "passed" (defArgs s_passed) (defBody s_passed) (defScope s_passed) [] [] f fd) (T : Tx K mg cl) {aI : Addr} {dI : FuncData} (GM : Gm P w K mg base cG aI dI) {a_filled_by : Addr} {d_filled_by : FuncData} (D_filled_by : Dn K mg "filled_by" s_filled_by ["game", "sweets"] [] [] a_filled_by d_filled_by) (G_filled_by : FnOk P w K mg base (L2.CX P w) 3 a_filled_by d_filled_by ["game", "sweets"] (upSp ⟨K, cG, cl⟩ sp_filled_by)) : FnOk P w K mg base (L2.CX P w) 4 f fd ["game", "sweets"] (upSp ⟨K, cG, cl⟩ sp_passed) := by
  refine fn_okF (d := d_passed) FF sc_passed (fun ys M X P h => ?_) ?_ (pure_passed)
  · first | (obtain ⟨_, e, _⟩ := h; rw [e]; rfl) | (obtain ⟨_, _, e, _⟩ := h; rw [e]; rfl) | (obtain ⟨_, _, _, e, _⟩ := h; rw [e]; rfl) | (obtain ⟨_, _, _, _, e, _⟩ := h; rw [e]; rfl) | (obtain ⟨_, _, _, _, _, e, _⟩ := h; rw [e]; rfl) | (obtain ⟨_, _, _, _, _, _, e, _⟩ := h; rw [e]; rfl) | (obtain ⟨_, _, _, _, _, _, _, e, _⟩ := h; rw [e]; rfl) | (obtain ⟨_, _, _, _, _, _, _, _, e, _⟩ := h; rw [e]; rfl) | (obtain ⟨_, _, _, _, _, _, _, _, _, e, _⟩ := h; rw [e]; rfl) | (obtain ⟨_, _, _, _, _, _, _, _, _, _, e, _⟩ := h; rw [e]; rfl) | (obtain ⟨_, _, _, _, _, _, _, _, _, _, _, e, _⟩ := h; rw [e]; rfl) | (obtain ⟨_, _, _, _, _, _, _, _, _, _, _, _, e, _⟩ := h; rw [e]; rfl) | (obtain ⟨_, _, _, _, _, _, _, _, _, _, _, _, _, e, _⟩ := h; rw [e]; rfl) | (obtain ⟨_, _, _, _, _, _, _, _, _, _, _, _, _, _, e, _⟩ := h; rw [e]; rfl) | (obtain ⟨_, _, _, _, _, _, _, _, _, _, _, _, _, _, _, e, _⟩ := h; rw [e]; rfl) | (obtain ⟨_, _, _, _, _, _, _, _, _, _, _, _, _, _, _, _, e, _⟩ := h; rw [e]; rfl)
  · intro cdv A outer sh H E hr
    exact (ss_cons (s_set (i := 2) sc_passed.nd (de_lc (own := [("number", 3)]) rfl sc_passed.nd (tgt_name (by decide)) (i_tup (de_call G_filled_by (hr.mono (by decide)) D_filled_by.g D_filled_by.fn.kp D_filled_by.b (takes_of rfl rfl rfl rfl) (da_cons (de_v 0) (da_cons (de_v 1) da_nil)))) (blkOk_by (own := [("number", 3)]) (by kernel_rfl)) (fun _ _ _ _ _ => (pg_name (i := 3) sc_passed.nd rfl (Or.inl rfl))) (fun _ _ _ _ _ => dts_nil) (fun _ _ _ _ _ => (e_div (de_v 3) (de_get (de_v 0) GM.cl GM.n_share)))))
  (ss_cons (s_set (i := 4) sc_passed.nd (e_sub (de_get (de_v 0) GM.cl GM.n_share) (b_len T.b_len (da_cons (de_get (de_v 0) GM.cl GM.n_ways) da_nil))))
  (ss_one (s_ret (b_tup T.b_tuple (da_cons (de_lc (own := [("at", 6)]) rfl sc_passed.nd (tgt_name (by decide)) (i_rng1 T.b_range (da_cons (de_get (de_v 0) GM.cl GM.n_size) da_nil)) (blkOk_by (own := [("at", 6)]) (by kernel_rfl)) (fun _ _ _ _ _ => (pg_name (i := 6) sc_passed.nd rfl (Or.inr rfl))) (fun _ _ _ _ _ => dts_nil) (fun _ _ _ _ _ => (e_add (e_mul (de_v 4) (e_ix (de_v 2) (de_v 6))) (b_sum rfl T.b_sum (da_cons (de_lc (own := [("step", 5)]) rfl sc_passed.nd (tgt_name (by decide)) (i_tup (de_get (de_v 0) GM.cl GM.n_ways)) (blkOk_by (own := [("step", 5)]) (by kernel_rfl)) (fun _ _ _ _ _ => (pg_name (i := 5) sc_passed.nd rfl (Or.inl rfl))) (fun _ _ _ _ _ => dts_nil) (fun _ _ _ _ _ => (e_ix (de_v 2) (e_sub (de_v 6) (de_v 5))))) da_nil))))) da_nil))))))
/-! all_rows -/
theorem ok_all_rows {f : Addr} {fd : FuncData} (FF : FunD K "all_rows" "all_rows" (defArgs s_all_rows) (defBody s_all_rows) (defScope s_all_rows) [] [] f fd) {a_passed : Addr} {d_passed : FuncData} (D_passed : Dn K mg "passed" s_passed ["game", "sweets"] [] [] a_passed d_passed) (G_passed : FnOk P w K mg base (L2.CX P w) 4 a_passed d_passed ["game", "sweets"] (upSp ⟨K, cG, cl⟩ sp_passed)) : FnOk P w K mg base (L2.CX P w) 5 f fd ["game", "sweets"] (upSp ⟨K, cG, cl⟩ sp_all_rows) := by
  refine fn_okF (d := d_all_rows) FF sc_all_rows (fun ys M X P h => ?_) ?_ (pure_all_rows)
  · first | (obtain ⟨_, e, _⟩ := h; rw [e]; rfl) | (obtain ⟨_, _, e, _⟩ := h; rw [e]; rfl) | (obtain ⟨_, _, _, e, _⟩ := h; rw [e]; rfl) | (obtain ⟨_, _, _, _, e, _⟩ := h; rw [e]; rfl) | (obtain ⟨_, _, _, _, _, e, _⟩ := h; rw [e]; rfl) | (obtain ⟨_, _, _, _, _, _, e, _⟩ := h; rw [e]; rfl) | (obtain ⟨_, _, _, _, _, _, _, e, _⟩ := h; rw [e]; rfl) | (obtain ⟨_, _, _, _, _, _, _, _, e, _⟩ := h; rw [e]; rfl) | (obtain ⟨_, _, _, _, _, _, _, _, _, e, _⟩ := h; rw [e]; rfl) | (obtain ⟨_, _, _, _, _, _, _, _, _, _, e, _⟩ := h; rw [e]; rfl) | (obtain ⟨_, _, _, _, _, _, _, _, _, _, _, e, _⟩ := h; rw [e]; rfl) | (obtain ⟨_, _, _, _, _, _, _, _, _, _, _, _, e, _⟩ := h; rw [e]; rfl) | (obtain ⟨_, _, _, _, _, _, _, _, _, _, _, _, _, e, _⟩ := h; rw [e]; rfl) | (obtain ⟨_, _, _, _, _, _, _, _, _, _, _, _, _, _, e, _⟩ := h; rw [e]; rfl) | (obtain ⟨_, _, _, _, _, _, _, _, _, _, _, _, _, _, _, e, _⟩ := h; rw [e]; rfl) | (obtain ⟨_, _, _, _, _, _, _, _, _, _, _, _, _, _, _, _, e, _⟩ := h; rw [e]; rfl)
  · intro cdv A outer sh H E hr
    exact (ss_cons (s_par (i := 2) (j := 3) rfl sc_all_rows.nd (da_cons (de_newL (da_cons (de_v 1) da_nil)) (da_cons (de_call G_passed (hr.mono (by decide)) D_passed.g D_passed.fn.kp D_passed.b (takes_of rfl rfl rfl rfl) (da_cons (de_v 0) (da_cons (de_v 1) da_nil))) da_nil)))
  (ss_cons (s_while (passes_of rfl) (t_ne hr.units (de_v 3) (e_ix (de_v 2) (e_neg de_int))) (ss_cons (s_expr (de_app (de_v 2) (de_v 3) rfl rfl (pe_bm PySem.F.plainAttrs_list PySem.F.slot_list_append PySem.F.type_list_append mt_append (de_v 2) (pa_cons (de_v 3) pa_nil))))
  (ss_one (s_set (i := 3) sc_all_rows.nd (de_call G_passed (hr.mono (by decide)) D_passed.g D_passed.fn.kp D_passed.b (takes_of rfl rfl rfl rfl) (da_cons (de_v 0) (da_cons (de_v 3) da_nil)))))))
  (ss_one (s_frz 2 (s_ret (de_v 2))))))
/-! check_few -/
theorem ok_check_few {f : Addr} {fd : FuncData} (FF : FunD K "check_few" "check_few" (defArgs s_check_few) (defBody s_check_few) (defScope s_check_few) [] [] f fd) (T : Tx K mg cl) {aI : Addr} {dI : FuncData} (GM : Gm P w K mg base cG aI dI) {a_is_from : Addr} {d_is_from : FuncData} (D_is_from : Dn K mg "is_from" s_is_from ["value", "low", "high"] [] [] a_is_from d_is_from) (G_is_from : FnOk P w K mg base (L2.CX P w) 4 a_is_from d_is_from ["value", "low", "high"] (upSp ⟨K, cG, cl⟩ sp_is_from)) : FnOk P w K mg base (L2.CX P w) 5 f fd ["game", "most"] (upSp ⟨K, cG, cl⟩ sp_check_few) := by
  refine fn_okF (d := d_check_few) FF sc_check_few (fun ys M X P h => ?_) ?_ (pure_check_few)
  · first | (obtain ⟨_, e, _⟩ := h; rw [e]; rfl) | (obtain ⟨_, _, e, _⟩ := h; rw [e]; rfl) | (obtain ⟨_, _, _, e, _⟩ := h; rw [e]; rfl) | (obtain ⟨_, _, _, _, e, _⟩ := h; rw [e]; rfl) | (obtain ⟨_, _, _, _, _, e, _⟩ := h; rw [e]; rfl) | (obtain ⟨_, _, _, _, _, _, e, _⟩ := h; rw [e]; rfl) | (obtain ⟨_, _, _, _, _, _, _, e, _⟩ := h; rw [e]; rfl) | (obtain ⟨_, _, _, _, _, _, _, _, e, _⟩ := h; rw [e]; rfl) | (obtain ⟨_, _, _, _, _, _, _, _, _, e, _⟩ := h; rw [e]; rfl) | (obtain ⟨_, _, _, _, _, _, _, _, _, _, e, _⟩ := h; rw [e]; rfl) | (obtain ⟨_, _, _, _, _, _, _, _, _, _, _, e, _⟩ := h; rw [e]; rfl) | (obtain ⟨_, _, _, _, _, _, _, _, _, _, _, _, e, _⟩ := h; rw [e]; rfl) | (obtain ⟨_, _, _, _, _, _, _, _, _, _, _, _, _, e, _⟩ := h; rw [e]; rfl) | (obtain ⟨_, _, _, _, _, _, _, _, _, _, _, _, _, _, e, _⟩ := h; rw [e]; rfl) | (obtain ⟨_, _, _, _, _, _, _, _, _, _, _, _, _, _, _, e, _⟩ := h; rw [e]; rfl) | (obtain ⟨_, _, _, _, _, _, _, _, _, _, _, _, _, _, _, _, e, _⟩ := h; rw [e]; rfl)
  · intro cdv A outer sh H E hr
    exact (ss_cons (s_if (t_gt (de_get (de_v 0) GM.cl GM.n_size) (de_globE T.c_MOST_FEW)) (ss_one (s_raise0 rfl (takes_of rfl rfl rfl rfl) T.e_TooMany)) ss_nil)
  (ss_one (s_if (dt_not (dt_val (de_call G_is_from (hr.mono (by decide)) D_is_from.g D_is_from.fn.kp D_is_from.b (takes_of rfl rfl rfl rfl) (da_cons (de_v 1) (da_cons de_int (da_cons (de_globE T.c_MOST_START) da_nil)))))) (ss_one (s_raise0 rfl (takes_of rfl rfl rfl rfl) T.e_BadMost)) ss_nil)))
/-! counted -/
theorem ok_counted {f : Addr} {fd : FuncData} (FF : FunD K "counted" "counted" (defArgs s_counted) (defBody s_counted) (defScope s_counted) [] [] f fd) (T : Tx K mg cl) : FnOk P w K mg base (L2.CX P w) 3 f fd ["things"] (upSp ⟨K, cG, cl⟩ sp_counted) := by
  refine fn_okF (d := d_counted) FF sc_counted (fun ys M X P h => ?_) ?_ (pure_counted)
  · first | (obtain ⟨_, e, _⟩ := h; rw [e]; rfl) | (obtain ⟨_, _, e, _⟩ := h; rw [e]; rfl) | (obtain ⟨_, _, _, e, _⟩ := h; rw [e]; rfl) | (obtain ⟨_, _, _, _, e, _⟩ := h; rw [e]; rfl) | (obtain ⟨_, _, _, _, _, e, _⟩ := h; rw [e]; rfl) | (obtain ⟨_, _, _, _, _, _, e, _⟩ := h; rw [e]; rfl) | (obtain ⟨_, _, _, _, _, _, _, e, _⟩ := h; rw [e]; rfl) | (obtain ⟨_, _, _, _, _, _, _, _, e, _⟩ := h; rw [e]; rfl) | (obtain ⟨_, _, _, _, _, _, _, _, _, e, _⟩ := h; rw [e]; rfl) | (obtain ⟨_, _, _, _, _, _, _, _, _, _, e, _⟩ := h; rw [e]; rfl) | (obtain ⟨_, _, _, _, _, _, _, _, _, _, _, e, _⟩ := h; rw [e]; rfl) | (obtain ⟨_, _, _, _, _, _, _, _, _, _, _, _, e, _⟩ := h; rw [e]; rfl) | (obtain ⟨_, _, _, _, _, _, _, _, _, _, _, _, _, e, _⟩ := h; rw [e]; rfl) | (obtain ⟨_, _, _, _, _, _, _, _, _, _, _, _, _, _, e, _⟩ := h; rw [e]; rfl) | (obtain ⟨_, _, _, _, _, _, _, _, _, _, _, _, _, _, _, e, _⟩ := h; rw [e]; rfl) | (obtain ⟨_, _, _, _, _, _, _, _, _, _, _, _, _, _, _, _, e, _⟩ := h; rw [e]; rfl)
  · intro cdv A outer sh H E hr
    exact (ss_cons (s_set (i := 1) sc_counted.nd de_newDic)
  (ss_cons (s_for (passes_of rfl) rfl (i_lst (de_v 0)) (g_name (i := 2) sc_counted.nd) (ss_one (s_dput hr.units (e_add (de_dget2 hr.units (de_v 1) (de_v 2) de_int ⟨rfl, by rfl, rfl, rfl⟩) de_int) (de_v 1) (de_v 2))))
  (ss_one (s_ret (de_lc (own := [("thing", 2)]) rfl sc_counted.nd (tgt_name (by decide)) (i_lst (b_sortX T.b_sorted (da_cons (b_listC rfl T.b_list (da_cons (de_v 1) da_nil)) da_nil))) (blkOk_by (own := [("thing", 2)]) (by kernel_rfl)) (fun _ _ _ _ _ => (pg_name (i := 2) sc_counted.nd rfl (Or.inl rfl))) (fun _ _ _ _ _ => dts_nil) (fun _ _ _ _ _ => (de_tup (da_cons (de_v 2) (da_cons (de_dix hr.units (de_v 1) (de_v 2)) da_nil)))))))))
/-! starts_of -/
theorem ok_starts_of {f : Addr} {fd : FuncData} (FF : FunD K "starts_of" "starts_of" (defArgs s_starts_of) (defBody s_starts_of) (defScope s_starts_of) [] [] f fd) (T : Tx K mg cl) {aI : Addr} {dI : FuncData} (GM : Gm P w K mg base cG aI dI) : FnOk P w K mg base (L2.CX P w) 3 f fd ["game", "most"] (upSp ⟨K, cG, cl⟩ sp_starts_of) := by
  refine fn_okF (d := d_starts_of) FF sc_starts_of (fun ys M X P h => ?_) ?_ (pure_starts_of)
  · first | (obtain ⟨_, e, _⟩ := h; rw [e]; rfl) | (obtain ⟨_, _, e, _⟩ := h; rw [e]; rfl) | (obtain ⟨_, _, _, e, _⟩ := h; rw [e]; rfl) | (obtain ⟨_, _, _, _, e, _⟩ := h; rw [e]; rfl) | (obtain ⟨_, _, _, _, _, e, _⟩ := h; rw [e]; rfl) | (obtain ⟨_, _, _, _, _, _, e, _⟩ := h; rw [e]; rfl) | (obtain ⟨_, _, _, _, _, _, _, e, _⟩ := h; rw [e]; rfl) | (obtain ⟨_, _, _, _, _, _, _, _, e, _⟩ := h; rw [e]; rfl) | (obtain ⟨_, _, _, _, _, _, _, _, _, e, _⟩ := h; rw [e]; rfl) | (obtain ⟨_, _, _, _, _, _, _, _, _, _, e, _⟩ := h; rw [e]; rfl) | (obtain ⟨_, _, _, _, _, _, _, _, _, _, _, e, _⟩ := h; rw [e]; rfl) | (obtain ⟨_, _, _, _, _, _, _, _, _, _, _, _, e, _⟩ := h; rw [e]; rfl) | (obtain ⟨_, _, _, _, _, _, _, _, _, _, _, _, _, e, _⟩ := h; rw [e]; rfl) | (obtain ⟨_, _, _, _, _, _, _, _, _, _, _, _, _, _, e, _⟩ := h; rw [e]; rfl) | (obtain ⟨_, _, _, _, _, _, _, _, _, _, _, _, _, _, _, e, _⟩ := h; rw [e]; rfl) | (obtain ⟨_, _, _, _, _, _, _, _, _, _, _, _, _, _, _, _, e, _⟩ := h; rw [e]; rfl)
  · intro cdv A outer sh H E hr
    exact (ss_cons (s_set (i := 2) sc_starts_of.nd (de_lst (da_cons (de_tup da_nil) da_nil)))
  (ss_cons (s_for (passes_of rfl) rfl (i_rng1 T.b_range (da_cons (de_get (de_v 0) GM.cl GM.n_size) da_nil)) (g_name (i := 3) sc_starts_of.nd) (ss_one (s_setLc2 (i := 2) (own := [("row", 4), ("number", 5)]) (vs1 := [5]) rfl sc_starts_of.nd (tgt_name (by decide)) (tgt_name (by decide)) (i_lst (de_v 2)) (blkOk_by (own := [("row", 4), ("number", 5)]) (by kernel_rfl)) (by decide) (fun _ _ _ _ _ => (pg_name (i := 4) sc_starts_of.nd rfl (Or.inl rfl))) (fun _ _ _ _ _ => dts_nil) (fun _ _ _ _ _ => (i_rng1 T.b_range (da_cons (e_add (de_v 1) de_int) da_nil))) (fun _ _ _ _ _ => (pg_name (i := 5) sc_starts_of.nd rfl (Or.inl rfl))) (fun _ _ _ _ _ => dts_nil) (fun _ _ _ _ _ => (de_tup (da_star (de_v 4) (da_cons (de_v 5) da_nil)))) (sw_true rfl rfl rfl (by decide +kernel)))))
  (ss_one (s_ret (de_v 2)))))
/-! ends_of -/
theorem ok_ends_of {f : Addr} {fd : FuncData} (FF : FunD K "ends_of" "ends_of" (defArgs s_ends_of) (defBody s_ends_of) (defScope s_ends_of) [] [] f fd) {a_all_rows : Addr} {d_all_rows : FuncData} (D_all_rows : Dn K mg "all_rows" s_all_rows ["game", "sweets"] [] [] a_all_rows d_all_rows) (G_all_rows : FnOk P w K mg base (L2.CX P w) 5 a_all_rows d_all_rows ["game", "sweets"] (upSp ⟨K, cG, cl⟩ sp_all_rows)) {a_check_few : Addr} {d_check_few : FuncData} (D_check_few : Dn K mg "check_few" s_check_few ["game", "most"] [] [] a_check_few d_check_few) (G_check_few : FnOk P w K mg base (L2.CX P w) 5 a_check_few d_check_few ["game", "most"] (upSp ⟨K, cG, cl⟩ sp_check_few)) {a_counted : Addr} {d_counted : FuncData} (D_counted : Dn K mg "counted" s_counted ["things"] [] [] a_counted d_counted) (G_counted : FnOk P w K mg base (L2.CX P w) 3 a_counted d_counted ["things"] (upSp ⟨K, cG, cl⟩ sp_counted)) {a_starts_of : Addr} {d_starts_of : FuncData} (D_starts_of : Dn K mg "starts_of" s_starts_of ["game", "most"] [] [] a_starts_of d_starts_of) (G_starts_of : FnOk P w K mg base (L2.CX P w) 3 a_starts_of d_starts_of ["game", "most"] (upSp ⟨K, cG, cl⟩ sp_starts_of)) : FnOk P w K mg base (L2.CX P w) 6 f fd ["game", "most"] (upSp ⟨K, cG, cl⟩ sp_ends_of) := by
  refine fn_okF (d := d_ends_of) FF sc_ends_of (fun ys M X P h => ?_) ?_ (pure_ends_of)
  · first | (obtain ⟨_, e, _⟩ := h; rw [e]; rfl) | (obtain ⟨_, _, e, _⟩ := h; rw [e]; rfl) | (obtain ⟨_, _, _, e, _⟩ := h; rw [e]; rfl) | (obtain ⟨_, _, _, _, e, _⟩ := h; rw [e]; rfl) | (obtain ⟨_, _, _, _, _, e, _⟩ := h; rw [e]; rfl) | (obtain ⟨_, _, _, _, _, _, e, _⟩ := h; rw [e]; rfl) | (obtain ⟨_, _, _, _, _, _, _, e, _⟩ := h; rw [e]; rfl) | (obtain ⟨_, _, _, _, _, _, _, _, e, _⟩ := h; rw [e]; rfl) | (obtain ⟨_, _, _, _, _, _, _, _, _, e, _⟩ := h; rw [e]; rfl) | (obtain ⟨_, _, _, _, _, _, _, _, _, _, e, _⟩ := h; rw [e]; rfl) | (obtain ⟨_, _, _, _, _, _, _, _, _, _, _, e, _⟩ := h; rw [e]; rfl) | (obtain ⟨_, _, _, _, _, _, _, _, _, _, _, _, e, _⟩ := h; rw [e]; rfl) | (obtain ⟨_, _, _, _, _, _, _, _, _, _, _, _, _, e, _⟩ := h; rw [e]; rfl) | (obtain ⟨_, _, _, _, _, _, _, _, _, _, _, _, _, _, e, _⟩ := h; rw [e]; rfl) | (obtain ⟨_, _, _, _, _, _, _, _, _, _, _, _, _, _, _, e, _⟩ := h; rw [e]; rfl) | (obtain ⟨_, _, _, _, _, _, _, _, _, _, _, _, _, _, _, _, e, _⟩ := h; rw [e]; rfl)
  · intro cdv A outer sh H E hr
    exact (ss_cons (s_expr (de_call G_check_few (hr.mono (by decide)) D_check_few.g D_check_few.fn.kp D_check_few.b (takes_of rfl rfl rfl rfl) (da_cons (de_v 0) (da_cons (de_v 1) da_nil))))
  (ss_one (s_ret (de_call G_counted (hr.mono (by decide)) D_counted.g D_counted.fn.kp D_counted.b (takes_of rfl rfl rfl rfl) (da_cons (de_lc (own := [("start", 2)]) rfl sc_ends_of.nd (tgt_name (by decide)) (i_lst (de_call G_starts_of (hr.mono (by decide)) D_starts_of.g D_starts_of.fn.kp D_starts_of.b (takes_of rfl rfl rfl rfl) (da_cons (de_v 0) (da_cons (de_v 1) da_nil)))) (blkOk_by (own := [("start", 2)]) (by kernel_rfl)) (fun _ _ _ _ _ => (pg_name (i := 2) sc_ends_of.nd rfl (Or.inl rfl))) (fun _ _ _ _ _ => dts_nil) (fun _ _ _ _ _ => (e_ix (de_call G_all_rows (hr.mono (by decide)) D_all_rows.g D_all_rows.fn.kp D_all_rows.b takes0 (da_cons (de_v 0) (da_cons (de_v 2) da_nil))) (e_neg de_int)))) da_nil)))))
/-! longest -/
theorem ok_longest {f : Addr} {fd : FuncData} (FF : FunD K "longest" "longest" (defArgs s_longest) (defBody s_longest) (defScope s_longest) [] [] f fd) (T : Tx K mg cl) {a_all_rows : Addr} {d_all_rows : FuncData} (D_all_rows : Dn K mg "all_rows" s_all_rows ["game", "sweets"] [] [] a_all_rows d_all_rows) (G_all_rows : FnOk P w K mg base (L2.CX P w) 5 a_all_rows d_all_rows ["game", "sweets"] (upSp ⟨K, cG, cl⟩ sp_all_rows)) {a_check_few : Addr} {d_check_few : FuncData} (D_check_few : Dn K mg "check_few" s_check_few ["game", "most"] [] [] a_check_few d_check_few) (G_check_few : FnOk P w K mg base (L2.CX P w) 5 a_check_few d_check_few ["game", "most"] (upSp ⟨K, cG, cl⟩ sp_check_few)) {a_starts_of : Addr} {d_starts_of : FuncData} (D_starts_of : Dn K mg "starts_of" s_starts_of ["game", "most"] [] [] a_starts_of d_starts_of) (G_starts_of : FnOk P w K mg base (L2.CX P w) 3 a_starts_of d_starts_of ["game", "most"] (upSp ⟨K, cG, cl⟩ sp_starts_of)) : FnOk P w K mg base (L2.CX P w) 6 f fd ["game", "most"] (upSp ⟨K, cG, cl⟩ sp_longest) := by
  refine fn_okF (d := d_longest) FF sc_longest (fun ys M X P h => ?_) ?_ (pure_longest)
  · first | (obtain ⟨_, e, _⟩ := h; rw [e]; rfl) | (obtain ⟨_, _, e, _⟩ := h; rw [e]; rfl) | (obtain ⟨_, _, _, e, _⟩ := h; rw [e]; rfl) | (obtain ⟨_, _, _, _, e, _⟩ := h; rw [e]; rfl) | (obtain ⟨_, _, _, _, _, e, _⟩ := h; rw [e]; rfl) | (obtain ⟨_, _, _, _, _, _, e, _⟩ := h; rw [e]; rfl) | (obtain ⟨_, _, _, _, _, _, _, e, _⟩ := h; rw [e]; rfl) | (obtain ⟨_, _, _, _, _, _, _, _, e, _⟩ := h; rw [e]; rfl) | (obtain ⟨_, _, _, _, _, _, _, _, _, e, _⟩ := h; rw [e]; rfl) | (obtain ⟨_, _, _, _, _, _, _, _, _, _, e, _⟩ := h; rw [e]; rfl) | (obtain ⟨_, _, _, _, _, _, _, _, _, _, _, e, _⟩ := h; rw [e]; rfl) | (obtain ⟨_, _, _, _, _, _, _, _, _, _, _, _, e, _⟩ := h; rw [e]; rfl) | (obtain ⟨_, _, _, _, _, _, _, _, _, _, _, _, _, e, _⟩ := h; rw [e]; rfl) | (obtain ⟨_, _, _, _, _, _, _, _, _, _, _, _, _, _, e, _⟩ := h; rw [e]; rfl) | (obtain ⟨_, _, _, _, _, _, _, _, _, _, _, _, _, _, _, e, _⟩ := h; rw [e]; rfl) | (obtain ⟨_, _, _, _, _, _, _, _, _, _, _, _, _, _, _, _, e, _⟩ := h; rw [e]; rfl)
  · intro cdv A outer sh H E hr
    exact (ss_cons (s_expr (de_call G_check_few (hr.mono (by decide)) D_check_few.g D_check_few.fn.kp D_check_few.b (takes_of rfl rfl rfl rfl) (da_cons (de_v 0) (da_cons (de_v 1) da_nil))))
  (ss_cons (s_set (i := 2) sc_longest.nd de_non)
  (ss_cons (s_for (passes_of rfl) rfl (i_lst (de_call G_starts_of (hr.mono (by decide)) D_starts_of.g D_starts_of.fn.kp D_starts_of.b (takes_of rfl rfl rfl rfl) (da_cons (de_v 0) (da_cons (de_v 1) da_nil)))) (g_name (i := 3) sc_longest.nd) (ss_cons (s_set (i := 4) sc_longest.nd (e_sub (b_len T.b_len (da_cons (de_call G_all_rows (hr.mono (by decide)) D_all_rows.g D_all_rows.fn.kp D_all_rows.b (takes_of rfl rfl rfl rfl) (da_cons (de_v 0) (da_cons (de_v 3) da_nil))) da_nil)) de_int))
  (ss_one (s_if (PW.pt (dw_or (t_is (de_v 2) de_non) (dw_or1 (t_gt (de_v 4) (e_ix (de_v 2) de_int))))) (ss_one (s_set (i := 2) sc_longest.nd (de_tup (da_cons (de_v 4) (da_cons (de_v 3) da_nil))))) ss_nil))))
  (ss_one (s_ret (de_v 2))))))
/-! rounds_of -/
theorem ok_rounds_of {f : Addr} {fd : FuncData} (FF : FunD K "rounds_of" "rounds_of" (defArgs s_rounds_of) (defBody s_rounds_of) (defScope s_rounds_of) [] [] f fd) (T : Tx K mg cl) {a_all_rows : Addr} {d_all_rows : FuncData} (D_all_rows : Dn K mg "all_rows" s_all_rows ["game", "sweets"] [] [] a_all_rows d_all_rows) (G_all_rows : FnOk P w K mg base (L2.CX P w) 5 a_all_rows d_all_rows ["game", "sweets"] (upSp ⟨K, cG, cl⟩ sp_all_rows)) {a_check_few : Addr} {d_check_few : FuncData} (D_check_few : Dn K mg "check_few" s_check_few ["game", "most"] [] [] a_check_few d_check_few) (G_check_few : FnOk P w K mg base (L2.CX P w) 5 a_check_few d_check_few ["game", "most"] (upSp ⟨K, cG, cl⟩ sp_check_few)) {a_counted : Addr} {d_counted : FuncData} (D_counted : Dn K mg "counted" s_counted ["things"] [] [] a_counted d_counted) (G_counted : FnOk P w K mg base (L2.CX P w) 3 a_counted d_counted ["things"] (upSp ⟨K, cG, cl⟩ sp_counted)) {a_starts_of : Addr} {d_starts_of : FuncData} (D_starts_of : Dn K mg "starts_of" s_starts_of ["game", "most"] [] [] a_starts_of d_starts_of) (G_starts_of : FnOk P w K mg base (L2.CX P w) 3 a_starts_of d_starts_of ["game", "most"] (upSp ⟨K, cG, cl⟩ sp_starts_of)) : FnOk P w K mg base (L2.CX P w) 6 f fd ["game", "most"] (upSp ⟨K, cG, cl⟩ sp_rounds_of) := by
  refine fn_okF (d := d_rounds_of) FF sc_rounds_of (fun ys M X P h => ?_) ?_ (pure_rounds_of)
  · first | (obtain ⟨_, e, _⟩ := h; rw [e]; rfl) | (obtain ⟨_, _, e, _⟩ := h; rw [e]; rfl) | (obtain ⟨_, _, _, e, _⟩ := h; rw [e]; rfl) | (obtain ⟨_, _, _, _, e, _⟩ := h; rw [e]; rfl) | (obtain ⟨_, _, _, _, _, e, _⟩ := h; rw [e]; rfl) | (obtain ⟨_, _, _, _, _, _, e, _⟩ := h; rw [e]; rfl) | (obtain ⟨_, _, _, _, _, _, _, e, _⟩ := h; rw [e]; rfl) | (obtain ⟨_, _, _, _, _, _, _, _, e, _⟩ := h; rw [e]; rfl) | (obtain ⟨_, _, _, _, _, _, _, _, _, e, _⟩ := h; rw [e]; rfl) | (obtain ⟨_, _, _, _, _, _, _, _, _, _, e, _⟩ := h; rw [e]; rfl) | (obtain ⟨_, _, _, _, _, _, _, _, _, _, _, e, _⟩ := h; rw [e]; rfl) | (obtain ⟨_, _, _, _, _, _, _, _, _, _, _, _, e, _⟩ := h; rw [e]; rfl) | (obtain ⟨_, _, _, _, _, _, _, _, _, _, _, _, _, e, _⟩ := h; rw [e]; rfl) | (obtain ⟨_, _, _, _, _, _, _, _, _, _, _, _, _, _, e, _⟩ := h; rw [e]; rfl) | (obtain ⟨_, _, _, _, _, _, _, _, _, _, _, _, _, _, _, e, _⟩ := h; rw [e]; rfl) | (obtain ⟨_, _, _, _, _, _, _, _, _, _, _, _, _, _, _, _, e, _⟩ := h; rw [e]; rfl)
  · intro cdv A outer sh H E hr
    exact (ss_cons (s_expr (de_call G_check_few (hr.mono (by decide)) D_check_few.g D_check_few.fn.kp D_check_few.b (takes_of rfl rfl rfl rfl) (da_cons (de_v 0) (da_cons (de_v 1) da_nil))))
  (ss_one (s_ret (de_call G_counted (hr.mono (by decide)) D_counted.g D_counted.fn.kp D_counted.b (takes_of rfl rfl rfl rfl) (da_cons (de_lc (own := [("start", 2)]) rfl sc_rounds_of.nd (tgt_name (by decide)) (i_lst (de_call G_starts_of (hr.mono (by decide)) D_starts_of.g D_starts_of.fn.kp D_starts_of.b (takes_of rfl rfl rfl rfl) (da_cons (de_v 0) (da_cons (de_v 1) da_nil)))) (blkOk_by (own := [("start", 2)]) (by kernel_rfl)) (fun _ _ _ _ _ => (pg_name (i := 2) sc_rounds_of.nd rfl (Or.inl rfl))) (fun _ _ _ _ _ => dts_nil) (fun _ _ _ _ _ => (e_sub (b_len T.b_len (da_cons (de_call G_all_rows (hr.mono (by decide)) D_all_rows.g D_all_rows.fn.kp D_all_rows.b takes0 (da_cons (de_v 0) (da_cons (de_v 2) da_nil))) da_nil)) de_int))) da_nil)))))
/-! law -/
theorem ok_law {f : Addr} {fd : FuncData} (FF : FunD K "law" "law" (defArgs s_law) (defBody s_law) (defScope s_law) [] [] f fd) (T : Tx K mg cl) {aI : Addr} {dI : FuncData} (GM : Gm P w K mg base cG aI dI) {a_law_below : Addr} {d_law_below : FuncData} (D_law_below : Dn K mg "_law_below" s_law_below ["_law_d", "_law_size"] [] [] a_law_below d_law_below) (G_law_below : FnOk P w K mg base (L2.CX P w) 3 a_law_below d_law_below ["_law_d", "_law_size"] (upSp ⟨K, cG, cl⟩ sp_law_below)) {a_law_counted : Addr} {d_law_counted : FuncData} (D_law_counted : Dn K mg "_law_counted" s_law_counted ["_law_things"] [] [] a_law_counted d_law_counted) (G_law_counted : FnOk P w K mg base (L2.CX P w) 3 a_law_counted d_law_counted ["_law_things"] (upSp ⟨K, cG, cl⟩ sp_law_counted)) {a_law_equal : Addr} {d_law_equal : FuncData} (D_law_equal : Dn K mg "_law_equal" s_law_equal ["_law_actual", "_law_expected"] [] [] a_law_equal d_law_equal) (G_law_equal : FnOk P w K mg base (L2.CX P w) 7 a_law_equal d_law_equal ["_law_actual", "_law_expected"] (upSp ⟨K, cG, cl⟩ spEq)) {a_law_game : Addr} {d_law_game : FuncData} (D_law_game : Dn K mg "_law_game" s_law_game ["_law_d", "_law_most"] [] [] a_law_game d_law_game) (G_law_game : FnOk P w K mg base (L2.CX P w) 7 a_law_game d_law_game ["_law_d", "_law_most"] (upSp ⟨K, cG, cl⟩ (sp_law_game cG))) {a_law_random : Addr} {d_law_random : FuncData} (D_law_random : Dn K mg "_law_random" s_law_random ["_law_script", "_law_salt"] [] [] a_law_random d_law_random) (G_law_random : FnOk P w K mg base (L2.CX P w) 3 a_law_random d_law_random ["_law_script", "_law_salt"] (upSp ⟨K, cG, cl⟩ sp_law_random)) {a_law_rows : Addr} {d_law_rows : FuncData} (D_law_rows : Dn K mg "_law_rows" s_law_rows ["_law_game_here", "_law_sweets"] [] [] a_law_rows d_law_rows) (G_law_rows : FnOk P w K mg base (L2.CX P w) 4 a_law_rows d_law_rows ["_law_game_here", "_law_sweets"] (upSp ⟨K, cG, cl⟩ sp_law_rows)) {a_law_starts : Addr} {d_law_starts : FuncData} (D_law_starts : Dn K mg "_law_starts" s_law_starts ["_law_game_here", "_law_most"] [] [] a_law_starts d_law_starts) (G_law_starts : FnOk P w K mg base (L2.CX P w) 3 a_law_starts d_law_starts ["_law_game_here", "_law_most"] (upSp ⟨K, cG, cl⟩ sp_law_starts)) {a_ends_of : Addr} {d_ends_of : FuncData} (D_ends_of : Dn K mg "ends_of" s_ends_of ["game", "most"] [] [] a_ends_of d_ends_of) (G_ends_of : FnOk P w K mg base (L2.CX P w) 6 a_ends_of d_ends_of ["game", "most"] (upSp ⟨K, cG, cl⟩ sp_ends_of)) {a_longest : Addr} {d_longest : FuncData} (D_longest : Dn K mg "longest" s_longest ["game", "most"] [] [] a_longest d_longest) (G_longest : FnOk P w K mg base (L2.CX P w) 6 a_longest d_longest ["game", "most"] (upSp ⟨K, cG, cl⟩ sp_longest)) {a_rounds_of : Addr} {d_rounds_of : FuncData} (D_rounds_of : Dn K mg "rounds_of" s_rounds_of ["game", "most"] [] [] a_rounds_of d_rounds_of) (G_rounds_of : FnOk P w K mg base (L2.CX P w) 6 a_rounds_of d_rounds_of ["game", "most"] (upSp ⟨K, cG, cl⟩ sp_rounds_of)) : FnOk P w K mg base (L2.CX P w) 8 f fd ["_law_script"] (upSp ⟨K, cG, cl⟩ sp_law) := by
  refine fn_okF (d := d_law cG) FF sc_law (fun ys M X P h => ?_) ?_ (pure_law cG)
  · first | (obtain ⟨_, e, _⟩ := h; rw [e]; rfl) | (obtain ⟨_, _, e, _⟩ := h; rw [e]; rfl) | (obtain ⟨_, _, _, e, _⟩ := h; rw [e]; rfl) | (obtain ⟨_, _, _, _, e, _⟩ := h; rw [e]; rfl) | (obtain ⟨_, _, _, _, _, e, _⟩ := h; rw [e]; rfl) | (obtain ⟨_, _, _, _, _, _, e, _⟩ := h; rw [e]; rfl) | (obtain ⟨_, _, _, _, _, _, _, e, _⟩ := h; rw [e]; rfl) | (obtain ⟨_, _, _, _, _, _, _, _, e, _⟩ := h; rw [e]; rfl) | (obtain ⟨_, _, _, _, _, _, _, _, _, e, _⟩ := h; rw [e]; rfl) | (obtain ⟨_, _, _, _, _, _, _, _, _, _, e, _⟩ := h; rw [e]; rfl) | (obtain ⟨_, _, _, _, _, _, _, _, _, _, _, e, _⟩ := h; rw [e]; rfl) | (obtain ⟨_, _, _, _, _, _, _, _, _, _, _, _, e, _⟩ := h; rw [e]; rfl) | (obtain ⟨_, _, _, _, _, _, _, _, _, _, _, _, _, e, _⟩ := h; rw [e]; rfl) | (obtain ⟨_, _, _, _, _, _, _, _, _, _, _, _, _, _, e, _⟩ := h; rw [e]; rfl) | (obtain ⟨_, _, _, _, _, _, _, _, _, _, _, _, _, _, _, e, _⟩ := h; rw [e]; rfl) | (obtain ⟨_, _, _, _, _, _, _, _, _, _, _, _, _, _, _, _, e, _⟩ := h; rw [e]; rfl)
  · intro cdv A outer sh H E hr
    exact (ss_cons (s_set (i := 1) sc_law.nd (de_call G_law_random (hr.mono (by decide)) D_law_random.g D_law_random.fn.kp D_law_random.b (takes_of rfl rfl rfl rfl) (da_cons (de_v 0) (da_cons de_int da_nil))))
  (ss_cons (s_set (i := 2) sc_law.nd (de_call G_law_game (hr.mono (by decide)) D_law_game.g D_law_game.fn.kp D_law_game.b (takes_of rfl rfl rfl rfl) (da_cons (de_v 1) (da_cons de_int da_nil))))
  (ss_cons (s_set (i := 3) sc_law.nd (de_call G_law_below (hr.mono (by decide)) D_law_below.g D_law_below.fn.kp D_law_below.b (takes_of rfl rfl rfl rfl) (da_cons (de_v 1) (da_cons (de_if (PW.pt (dw_or (t_eq hr.units (de_prop (de_v 2) GM.cl GM.p_children GM.k_children (hr.mono (by decide) : Room 2 _) GM.b_children passL) de_int) (dw_or1 (t_eq hr.units (de_call G_law_below (hr.mono (by decide)) D_law_below.g D_law_below.fn.kp D_law_below.b (takes_of rfl rfl rfl rfl) (da_cons (de_v 1) (da_cons de_int da_nil))) de_int)))) de_int de_int) da_nil))))
  (ss_cons (s_set (i := 4) sc_law.nd (de_call G_law_starts (hr.mono (by decide)) D_law_starts.g D_law_starts.fn.kp D_law_starts.b (takes_of rfl rfl rfl rfl) (da_cons (de_v 2) (da_cons (de_v 3) da_nil))))
  (ss_cons (s_setLc (i := 5) (own := [("_law_start", 6)]) rfl sc_law.nd (tgt_name (by decide)) (i_lst (de_v 4)) (blkOk_by (own := [("_law_start", 6)]) (by kernel_rfl)) (fun _ _ _ _ _ => (pg_name (i := 6) sc_law.nd rfl (Or.inl rfl))) (fun _ _ _ _ _ => dts_nil) (fun _ _ _ _ _ => (de_call G_law_rows (hr.mono (by decide)) D_law_rows.g D_law_rows.fn.kp D_law_rows.b takes0 (da_cons (de_v 2) (da_cons (de_v 6) da_nil)))) (sw_true rfl rfl rfl (by decide +kernel)))
  (ss_cons (s_if (dt_not (dt_val (de_call G_law_equal (hr.mono (by decide)) D_law_equal.g D_law_equal.fn.kp D_law_equal.b (takes_of rfl rfl rfl rfl) (da_cons (de_call G_ends_of (hr.mono (by decide)) D_ends_of.g D_ends_of.fn.kp D_ends_of.b (takes_of rfl rfl rfl rfl) (da_cons (de_v 2) (da_cons (de_v 3) da_nil))) (da_cons (de_call G_law_counted (hr.mono (by decide)) D_law_counted.g D_law_counted.fn.kp D_law_counted.b (takes_of rfl rfl rfl rfl) (da_cons (de_lc (own := [("_law_row", 7)]) rfl sc_law.nd (tgt_name (by decide)) (i_lst (de_v 5)) (blkOk_by (own := [("_law_row", 7)]) (by kernel_rfl)) (fun _ _ _ _ _ => (pg_name (i := 7) sc_law.nd rfl (Or.inl rfl))) (fun _ _ _ _ _ => dts_nil) (fun _ _ _ _ _ => (e_ix (de_v 7) (e_neg de_int)))) da_nil)) da_nil))))) (ss_one (s_ret de_bl)) ss_nil)
  (ss_cons (s_setLc (i := 8) (own := [("_law_row", 7)]) rfl sc_law.nd (tgt_name (by decide)) (i_lst (de_v 5)) (blkOk_by (own := [("_law_row", 7)]) (by kernel_rfl)) (fun _ _ _ _ _ => (pg_name (i := 7) sc_law.nd rfl (Or.inl rfl))) (fun _ _ _ _ _ => dts_nil) (fun _ _ _ _ _ => (e_sub (b_len T.b_len (da_cons (de_v 7) da_nil)) de_int)) (sw_true rfl rfl rfl (by decide +kernel)))
  (ss_cons (s_if (dt_not (dt_val (de_call G_law_equal (hr.mono (by decide)) D_law_equal.g D_law_equal.fn.kp D_law_equal.b (takes_of rfl rfl rfl rfl) (da_cons (de_call G_rounds_of (hr.mono (by decide)) D_rounds_of.g D_rounds_of.fn.kp D_rounds_of.b (takes_of rfl rfl rfl rfl) (da_cons (de_v 2) (da_cons (de_v 3) da_nil))) (da_cons (de_call G_law_counted (hr.mono (by decide)) D_law_counted.g D_law_counted.fn.kp D_law_counted.b (takes_of rfl rfl rfl rfl) (da_cons (de_v 8) da_nil)) da_nil))))) (ss_one (s_ret de_bl)) ss_nil)
  (ss_one (s_ret (de_call G_law_equal (hr.mono (by decide)) D_law_equal.g D_law_equal.fn.kp D_law_equal.b (takes_of rfl rfl rfl rfl) (da_cons (de_call G_longest (hr.mono (by decide)) D_longest.g D_longest.fn.kp D_longest.b (takes_of rfl rfl rfl rfl) (da_cons (de_v 2) (da_cons (de_v 3) da_nil))) (da_cons (de_tup (da_cons (b_max rfl T.b_max (da_cons (de_v 8) da_nil)) (da_cons (e_ix (de_v 4) (de_indexI (de_v 8) (b_max rfl T.b_max (da_cons (de_v 8) da_nil)) (pe_bm PySem.F.plainAttrs_list PySem.F.slot_list_index PySem.F.type_list_index mt_index (de_v 8) (pa_cons (b_max rfl T.b_max (da_cons (de_v 8) da_nil)) pa_nil)))) da_nil))) da_nil)))))))))))))
end
/-! what the top has left, and the end -/
def clOf : List (Str × Addr) → Str → Addr
  | [], _ => 0
  | (n, a) :: r, s => if s = n then a else clOf r s
theorem all_mk {P : Program} {w : World} {K : PySem.W.Frag} {h : Heap} {mg : Str → Option Value} {fa f_law_below f_law_counted f_law_equal f_is_integer f_is_from f_law_pick f_law_game f_law_random f_law_round f_law_rows f_law_starts f_filled_by f_passed f_all_rows f_check_few f_counted f_starts_of f_ends_of f_longest f_rounds_of f_law cG f_Gi p_children f_q_children p_parts f_q_parts p_steps f_q_steps e_BadChildren e_BadMost e_BadParts e_BadSteps f_i_BadSteps e_TooMany : Addr} (X : K.In h) (GG : h.Ns mainGlobals mg) (hfa : mg "law" = some (.ref fa))
    {od_law_below an_law_below od_law_counted an_law_counted od_law_equal an_law_equal od_is_integer an_is_integer od_is_from an_is_from od_law_pick an_law_pick od_law_game an_law_game od_law_random an_law_random od_law_round an_law_round od_law_rows an_law_rows od_law_starts an_law_starts od_filled_by an_filled_by od_passed an_passed od_all_rows an_all_rows od_check_few an_check_few od_counted an_counted od_starts_of an_starts_of od_ends_of an_ends_of od_longest an_longest od_rounds_of an_rounds_of od_law an_law od_Gi an_Gi od_q_children an_q_children od_q_parts an_q_parts od_q_steps an_q_steps od_i_BadSteps an_i_BadSteps : Option Addr} {sl_law_below sl_law_counted sl_law_equal sl_is_integer sl_is_from sl_law_pick sl_law_game sl_law_random sl_law_round sl_law_rows sl_law_starts sl_filled_by sl_passed sl_all_rows sl_check_few sl_counted sl_starts_of sl_ends_of sl_longest sl_rounds_of sl_law sl_Gi sl_q_children sl_q_parts sl_q_steps sl_i_BadSteps : Array (Option Value)} {oc_law_below kV_law_below dc_law_below pm_law_below cd_law_below ct_law_below oc_law_counted kV_law_counted dc_law_counted pm_law_counted cd_law_counted ct_law_counted oc_law_equal kV_law_equal dc_law_equal pm_law_equal cd_law_equal ct_law_equal oc_is_integer kV_is_integer dc_is_integer pm_is_integer cd_is_integer ct_is_integer oc_is_from kV_is_from dc_is_from pm_is_from cd_is_from ct_is_from oc_law_pick kV_law_pick dc_law_pick pm_law_pick cd_law_pick ct_law_pick oc_law_game kV_law_game dc_law_game pm_law_game cd_law_game ct_law_game oc_law_random kV_law_random dc_law_random pm_law_random cd_law_random ct_law_random oc_law_round kV_law_round dc_law_round pm_law_round cd_law_round ct_law_round oc_law_rows kV_law_rows dc_law_rows pm_law_rows cd_law_rows ct_law_rows oc_law_starts kV_law_starts dc_law_starts pm_law_starts cd_law_starts ct_law_starts oc_filled_by kV_filled_by dc_filled_by pm_filled_by cd_filled_by ct_filled_by oc_passed kV_passed dc_passed pm_passed cd_passed ct_passed oc_all_rows kV_all_rows dc_all_rows pm_all_rows cd_all_rows ct_all_rows oc_check_few kV_check_few dc_check_few pm_check_few cd_check_few ct_check_few oc_counted kV_counted dc_counted pm_counted cd_counted ct_counted oc_starts_of kV_starts_of dc_starts_of pm_starts_of cd_starts_of ct_starts_of oc_ends_of kV_ends_of dc_ends_of pm_ends_of cd_ends_of ct_ends_of oc_longest kV_longest dc_longest pm_longest cd_longest ct_longest oc_rounds_of kV_rounds_of dc_rounds_of pm_rounds_of cd_rounds_of ct_rounds_of oc_law kV_law dc_law pm_law cd_law ct_law oc_Gi kV_Gi dc_Gi pm_Gi cd_Gi ct_Gi oc_q_children kV_q_children dc_q_children pm_q_children cd_q_children ct_q_children oc_q_parts kV_q_parts dc_q_parts pm_q_parts cd_q_parts ct_q_parts oc_q_steps kV_q_steps dc_q_steps pm_q_steps cd_q_steps ct_q_steps oc_i_BadSteps dc_i_BadSteps pm_i_BadSteps cd_i_BadSteps ct_i_BadSteps : Value} {pr_children : List Value} {pr_parts : List Value} {pr_steps : List Value} {tt_MOST_CHILDREN : Tok} {tt_MOST_FEW : Tok} {tt_MOST_PARTS : Tok} {tt_MOST_START : Tok} {n1_BadSteps n2_BadSteps : Str} {n3_BadSteps sS_BadSteps : Addr} {bs_BadSteps sub_BadSteps : List Value} {sn_BadSteps : List Str} {ab_BadSteps : Bool} {col_BadSteps : Option Bool} {dd_BadSteps : Option Addr} {m0_BadSteps m1_BadSteps m2_BadSteps m3_BadSteps m5_BadSteps : Option Value}
    (a_law_below : PySem.W.nsIn K mainGlobals "_law_below" = some (some (.ref f_law_below)))
    (l_law_below : K.lookup f_law_below = some ⟨oc_law_below, od_law_below, .func (PySem.W.fnOf "_law_below" "_law_below" (defArgs s_law_below) (defBody s_law_below) (defScope s_law_below) .none kV_law_below dc_law_below pm_law_below an_law_below cd_law_below ct_law_below), sl_law_below⟩)
    (c_law_below : PySem.W.codeIn K cd_law_below "_law_below" = true)
    (k_law_below : PySem.W.keepIn K (.ref f_law_below) = true)
    (a_law_counted : PySem.W.nsIn K mainGlobals "_law_counted" = some (some (.ref f_law_counted)))
    (l_law_counted : K.lookup f_law_counted = some ⟨oc_law_counted, od_law_counted, .func (PySem.W.fnOf "_law_counted" "_law_counted" (defArgs s_law_counted) (defBody s_law_counted) (defScope s_law_counted) .none kV_law_counted dc_law_counted pm_law_counted an_law_counted cd_law_counted ct_law_counted), sl_law_counted⟩)
    (c_law_counted : PySem.W.codeIn K cd_law_counted "_law_counted" = true)
    (k_law_counted : PySem.W.keepIn K (.ref f_law_counted) = true)
    (a_law_equal : PySem.W.nsIn K mainGlobals "_law_equal" = some (some (.ref f_law_equal)))
    (l_law_equal : K.lookup f_law_equal = some ⟨oc_law_equal, od_law_equal, .func (PySem.W.fnOf "_law_equal" "_law_equal" (defArgs s_law_equal) (defBody s_law_equal) (defScope s_law_equal) .none kV_law_equal dc_law_equal pm_law_equal an_law_equal cd_law_equal ct_law_equal), sl_law_equal⟩)
    (c_law_equal : PySem.W.codeIn K cd_law_equal "_law_equal" = true)
    (k_law_equal : PySem.W.keepIn K (.ref f_law_equal) = true)
    (a_is_integer : PySem.W.nsIn K mainGlobals "is_integer" = some (some (.ref f_is_integer)))
    (l_is_integer : K.lookup f_is_integer = some ⟨oc_is_integer, od_is_integer, .func (PySem.W.fnOf "is_integer" "is_integer" (defArgs s_is_integer) (defBody s_is_integer) (defScope s_is_integer) .none kV_is_integer dc_is_integer pm_is_integer an_is_integer cd_is_integer ct_is_integer), sl_is_integer⟩)
    (c_is_integer : PySem.W.codeIn K cd_is_integer "is_integer" = true)
    (k_is_integer : PySem.W.keepIn K (.ref f_is_integer) = true)
    (a_is_from : PySem.W.nsIn K mainGlobals "is_from" = some (some (.ref f_is_from)))
    (l_is_from : K.lookup f_is_from = some ⟨oc_is_from, od_is_from, .func (PySem.W.fnOf "is_from" "is_from" (defArgs s_is_from) (defBody s_is_from) (defScope s_is_from) .none kV_is_from dc_is_from pm_is_from an_is_from cd_is_from ct_is_from), sl_is_from⟩)
    (c_is_from : PySem.W.codeIn K cd_is_from "is_from" = true)
    (k_is_from : PySem.W.keepIn K (.ref f_is_from) = true)
    (a_law_pick : PySem.W.nsIn K mainGlobals "_law_pick" = some (some (.ref f_law_pick)))
    (l_law_pick : K.lookup f_law_pick = some ⟨oc_law_pick, od_law_pick, .func (PySem.W.fnOf "_law_pick" "_law_pick" (defArgs s_law_pick) (defBody s_law_pick) (defScope s_law_pick) .none kV_law_pick dc_law_pick pm_law_pick an_law_pick cd_law_pick ct_law_pick), sl_law_pick⟩)
    (c_law_pick : PySem.W.codeIn K cd_law_pick "_law_pick" = true)
    (k_law_pick : PySem.W.keepIn K (.ref f_law_pick) = true)
    (a_law_game : PySem.W.nsIn K mainGlobals "_law_game" = some (some (.ref f_law_game)))
    (l_law_game : K.lookup f_law_game = some ⟨oc_law_game, od_law_game, .func (PySem.W.fnOf "_law_game" "_law_game" (defArgs s_law_game) (defBody s_law_game) (defScope s_law_game) .none kV_law_game dc_law_game pm_law_game an_law_game cd_law_game ct_law_game), sl_law_game⟩)
    (c_law_game : PySem.W.codeIn K cd_law_game "_law_game" = true)
    (k_law_game : PySem.W.keepIn K (.ref f_law_game) = true)
    (a_law_random : PySem.W.nsIn K mainGlobals "_law_random" = some (some (.ref f_law_random)))
    (l_law_random : K.lookup f_law_random = some ⟨oc_law_random, od_law_random, .func (PySem.W.fnOf "_law_random" "_law_random" (defArgs s_law_random) (defBody s_law_random) (defScope s_law_random) .none kV_law_random dc_law_random pm_law_random an_law_random cd_law_random ct_law_random), sl_law_random⟩)
    (c_law_random : PySem.W.codeIn K cd_law_random "_law_random" = true)
    (k_law_random : PySem.W.keepIn K (.ref f_law_random) = true)
    (a_law_round : PySem.W.nsIn K mainGlobals "_law_round" = some (some (.ref f_law_round)))
    (l_law_round : K.lookup f_law_round = some ⟨oc_law_round, od_law_round, .func (PySem.W.fnOf "_law_round" "_law_round" (defArgs s_law_round) (defBody s_law_round) (defScope s_law_round) .none kV_law_round dc_law_round pm_law_round an_law_round cd_law_round ct_law_round), sl_law_round⟩)
    (c_law_round : PySem.W.codeIn K cd_law_round "_law_round" = true)
    (k_law_round : PySem.W.keepIn K (.ref f_law_round) = true)
    (a_law_rows : PySem.W.nsIn K mainGlobals "_law_rows" = some (some (.ref f_law_rows)))
    (l_law_rows : K.lookup f_law_rows = some ⟨oc_law_rows, od_law_rows, .func (PySem.W.fnOf "_law_rows" "_law_rows" (defArgs s_law_rows) (defBody s_law_rows) (defScope s_law_rows) .none kV_law_rows dc_law_rows pm_law_rows an_law_rows cd_law_rows ct_law_rows), sl_law_rows⟩)
    (c_law_rows : PySem.W.codeIn K cd_law_rows "_law_rows" = true)
    (k_law_rows : PySem.W.keepIn K (.ref f_law_rows) = true)
    (a_law_starts : PySem.W.nsIn K mainGlobals "_law_starts" = some (some (.ref f_law_starts)))
    (l_law_starts : K.lookup f_law_starts = some ⟨oc_law_starts, od_law_starts, .func (PySem.W.fnOf "_law_starts" "_law_starts" (defArgs s_law_starts) (defBody s_law_starts) (defScope s_law_starts) .none kV_law_starts dc_law_starts pm_law_starts an_law_starts cd_law_starts ct_law_starts), sl_law_starts⟩)
    (c_law_starts : PySem.W.codeIn K cd_law_starts "_law_starts" = true)
    (k_law_starts : PySem.W.keepIn K (.ref f_law_starts) = true)
    (a_filled_by : PySem.W.nsIn K mainGlobals "filled_by" = some (some (.ref f_filled_by)))
    (l_filled_by : K.lookup f_filled_by = some ⟨oc_filled_by, od_filled_by, .func (PySem.W.fnOf "filled_by" "filled_by" (defArgs s_filled_by) (defBody s_filled_by) (defScope s_filled_by) .none kV_filled_by dc_filled_by pm_filled_by an_filled_by cd_filled_by ct_filled_by), sl_filled_by⟩)
    (c_filled_by : PySem.W.codeIn K cd_filled_by "filled_by" = true)
    (k_filled_by : PySem.W.keepIn K (.ref f_filled_by) = true)
    (a_passed : PySem.W.nsIn K mainGlobals "passed" = some (some (.ref f_passed)))
    (l_passed : K.lookup f_passed = some ⟨oc_passed, od_passed, .func (PySem.W.fnOf "passed" "passed" (defArgs s_passed) (defBody s_passed) (defScope s_passed) .none kV_passed dc_passed pm_passed an_passed cd_passed ct_passed), sl_passed⟩)
    (c_passed : PySem.W.codeIn K cd_passed "passed" = true)
    (k_passed : PySem.W.keepIn K (.ref f_passed) = true)
    (a_all_rows : PySem.W.nsIn K mainGlobals "all_rows" = some (some (.ref f_all_rows)))
    (l_all_rows : K.lookup f_all_rows = some ⟨oc_all_rows, od_all_rows, .func (PySem.W.fnOf "all_rows" "all_rows" (defArgs s_all_rows) (defBody s_all_rows) (defScope s_all_rows) .none kV_all_rows dc_all_rows pm_all_rows an_all_rows cd_all_rows ct_all_rows), sl_all_rows⟩)
    (c_all_rows : PySem.W.codeIn K cd_all_rows "all_rows" = true)
    (k_all_rows : PySem.W.keepIn K (.ref f_all_rows) = true)
    (a_check_few : PySem.W.nsIn K mainGlobals "check_few" = some (some (.ref f_check_few)))
    (l_check_few : K.lookup f_check_few = some ⟨oc_check_few, od_check_few, .func (PySem.W.fnOf "check_few" "check_few" (defArgs s_check_few) (defBody s_check_few) (defScope s_check_few) .none kV_check_few dc_check_few pm_check_few an_check_few cd_check_few ct_check_few), sl_check_few⟩)
    (c_check_few : PySem.W.codeIn K cd_check_few "check_few" = true)
    (k_check_few : PySem.W.keepIn K (.ref f_check_few) = true)
    (a_counted : PySem.W.nsIn K mainGlobals "counted" = some (some (.ref f_counted)))
    (l_counted : K.lookup f_counted = some ⟨oc_counted, od_counted, .func (PySem.W.fnOf "counted" "counted" (defArgs s_counted) (defBody s_counted) (defScope s_counted) .none kV_counted dc_counted pm_counted an_counted cd_counted ct_counted), sl_counted⟩)
    (c_counted : PySem.W.codeIn K cd_counted "counted" = true)
    (k_counted : PySem.W.keepIn K (.ref f_counted) = true)
    (a_starts_of : PySem.W.nsIn K mainGlobals "starts_of" = some (some (.ref f_starts_of)))
    (l_starts_of : K.lookup f_starts_of = some ⟨oc_starts_of, od_starts_of, .func (PySem.W.fnOf "starts_of" "starts_of" (defArgs s_starts_of) (defBody s_starts_of) (defScope s_starts_of) .none kV_starts_of dc_starts_of pm_starts_of an_starts_of cd_starts_of ct_starts_of), sl_starts_of⟩)
    (c_starts_of : PySem.W.codeIn K cd_starts_of "starts_of" = true)
    (k_starts_of : PySem.W.keepIn K (.ref f_starts_of) = true)
    (a_ends_of : PySem.W.nsIn K mainGlobals "ends_of" = some (some (.ref f_ends_of)))
    (l_ends_of : K.lookup f_ends_of = some ⟨oc_ends_of, od_ends_of, .func (PySem.W.fnOf "ends_of" "ends_of" (defArgs s_ends_of) (defBody s_ends_of) (defScope s_ends_of) .none kV_ends_of dc_ends_of pm_ends_of an_ends_of cd_ends_of ct_ends_of), sl_ends_of⟩)
    (c_ends_of : PySem.W.codeIn K cd_ends_of "ends_of" = true)
    (k_ends_of : PySem.W.keepIn K (.ref f_ends_of) = true)
    (a_longest : PySem.W.nsIn K mainGlobals "longest" = some (some (.ref f_longest)))
    (l_longest : K.lookup f_longest = some ⟨oc_longest, od_longest, .func (PySem.W.fnOf "longest" "longest" (defArgs s_longest) (defBody s_longest) (defScope s_longest) .none kV_longest dc_longest pm_longest an_longest cd_longest ct_longest), sl_longest⟩)
    (c_longest : PySem.W.codeIn K cd_longest "longest" = true)
    (k_longest : PySem.W.keepIn K (.ref f_longest) = true)
    (a_rounds_of : PySem.W.nsIn K mainGlobals "rounds_of" = some (some (.ref f_rounds_of)))
    (l_rounds_of : K.lookup f_rounds_of = some ⟨oc_rounds_of, od_rounds_of, .func (PySem.W.fnOf "rounds_of" "rounds_of" (defArgs s_rounds_of) (defBody s_rounds_of) (defScope s_rounds_of) .none kV_rounds_of dc_rounds_of pm_rounds_of an_rounds_of cd_rounds_of ct_rounds_of), sl_rounds_of⟩)
    (c_rounds_of : PySem.W.codeIn K cd_rounds_of "rounds_of" = true)
    (k_rounds_of : PySem.W.keepIn K (.ref f_rounds_of) = true)
    (a_law : PySem.W.nsIn K mainGlobals "law" = some (some (.ref f_law)))
    (l_law : K.lookup f_law = some ⟨oc_law, od_law, .func (PySem.W.fnOf "law" "law" (defArgs s_law) (defBody s_law) (defScope s_law) .none kV_law dc_law pm_law an_law cd_law ct_law), sl_law⟩)
    (c_law : PySem.W.codeIn K cd_law "law" = true)
    (k_law : PySem.W.keepIn K (.ref f_law) = true)
    (aG : PySem.W.nsIn K mainGlobals "Game" = some (some (.ref cG)))
    (a_Gi : PySem.W.findIn K (.ref cG) "__init__" = some (some (.ref f_Gi)))
    (l_Gi : K.lookup f_Gi = some ⟨oc_Gi, od_Gi, .func (PySem.W.fnOf "__init__" "Game.__init__" (defArgs s_Game_init) (defBody s_Game_init) (defScope s_Game_init) .none kV_Gi dc_Gi pm_Gi an_Gi cd_Gi ct_Gi), sl_Gi⟩)
    (c_Gi : PySem.W.codeIn K cd_Gi "Game.__init__" = true)
    (k_Gi : PySem.W.keepIn K (.ref f_Gi) = true)
    (iGi : PySem.W.isFn K (.ref f_Gi) = true)
    (pa_children : PySem.W.findIn K (.ref cG) "children" = some (some (.ref p_children)))
    (pg_children : PySem.W.specialIn K (.ref p_children) "__get__" = some (some (.builtin "property.__get__")))
    (pt_children : PySem.W.takesIn K (.ref p_children) = some true)
    (pr1_children : PySem.W.recIn K p_children "property" = some (.ref f_q_children :: pr_children))
    (l_q_children : K.lookup f_q_children = some ⟨oc_q_children, od_q_children, .func (PySem.W.fnOf "children" "Game.children" (defArgs s_p_children) (defBody s_p_children) (defScope s_p_children) .none kV_q_children dc_q_children pm_q_children an_q_children cd_q_children ct_q_children), sl_q_children⟩)
    (c_q_children : PySem.W.codeIn K cd_q_children "Game.children" = true)
    (k_q_children : PySem.W.keepIn K (.ref f_q_children) = true)
    (pa_parts : PySem.W.findIn K (.ref cG) "parts" = some (some (.ref p_parts)))
    (pg_parts : PySem.W.specialIn K (.ref p_parts) "__get__" = some (some (.builtin "property.__get__")))
    (pt_parts : PySem.W.takesIn K (.ref p_parts) = some true)
    (pr1_parts : PySem.W.recIn K p_parts "property" = some (.ref f_q_parts :: pr_parts))
    (l_q_parts : K.lookup f_q_parts = some ⟨oc_q_parts, od_q_parts, .func (PySem.W.fnOf "parts" "Game.parts" (defArgs s_p_parts) (defBody s_p_parts) (defScope s_p_parts) .none kV_q_parts dc_q_parts pm_q_parts an_q_parts cd_q_parts ct_q_parts), sl_q_parts⟩)
    (c_q_parts : PySem.W.codeIn K cd_q_parts "Game.parts" = true)
    (k_q_parts : PySem.W.keepIn K (.ref f_q_parts) = true)
    (pa_steps : PySem.W.findIn K (.ref cG) "steps" = some (some (.ref p_steps)))
    (pg_steps : PySem.W.specialIn K (.ref p_steps) "__get__" = some (some (.builtin "property.__get__")))
    (pt_steps : PySem.W.takesIn K (.ref p_steps) = some true)
    (pr1_steps : PySem.W.recIn K p_steps "property" = some (.ref f_q_steps :: pr_steps))
    (l_q_steps : K.lookup f_q_steps = some ⟨oc_q_steps, od_q_steps, .func (PySem.W.fnOf "steps" "Game.steps" (defArgs s_p_steps) (defBody s_p_steps) (defScope s_p_steps) .none kV_q_steps dc_q_steps pm_q_steps an_q_steps cd_q_steps ct_q_steps), sl_q_steps⟩)
    (c_q_steps : PySem.W.codeIn K cd_q_steps "Game.steps" = true)
    (k_q_steps : PySem.W.keepIn K (.ref f_q_steps) = true)
    (gpg : PySem.W.plainGet K cG Str.empty = true)
    (ghd : PySem.W.hasDictIn K cG = true)
    (gpo : PySem.W.plainOver K cG = true)
    (gsa : PySem.W.findIn K (.ref cG) "__setattr__" = some (some (.builtin "object.__setattr__")))
    (gmk : PySem.W.makesIn K cG = true)
    (gkc : PySem.W.keepIn K (.ref cG) = true)
    (gn_size : PySem.W.findIn K (.ref cG) "size" = some none)
    (gn_share : PySem.W.findIn K (.ref cG) "share" = some none)
    (gn_ways : PySem.W.findIn K (.ref cG) "ways" = some none)
    (z_abs : PySem.W.nsIn K mainGlobals "abs" = some none)
    (z_all : PySem.W.nsIn K mainGlobals "all" = some none)
    (z_bool : PySem.W.nsIn K mainGlobals "bool" = some none)
    (z_dict : PySem.W.nsIn K mainGlobals "dict" = some none)
    (z_enumerate : PySem.W.nsIn K mainGlobals "enumerate" = some none)
    (z_int : PySem.W.nsIn K mainGlobals "int" = some none)
    (z_isinstance : PySem.W.nsIn K mainGlobals "isinstance" = some none)
    (z_len : PySem.W.nsIn K mainGlobals "len" = some none)
    (z_list : PySem.W.nsIn K mainGlobals "list" = some none)
    (z_max : PySem.W.nsIn K mainGlobals "max" = some none)
    (z_range : PySem.W.nsIn K mainGlobals "range" = some none)
    (z_set : PySem.W.nsIn K mainGlobals "set" = some none)
    (z_sorted : PySem.W.nsIn K mainGlobals "sorted" = some none)
    (z_str : PySem.W.nsIn K mainGlobals "str" = some none)
    (z_sum : PySem.W.nsIn K mainGlobals "sum" = some none)
    (z_tuple : PySem.W.nsIn K mainGlobals "tuple" = some none)
    (zc_MOST_CHILDREN : PySem.W.nsIn K mainGlobals "MOST_CHILDREN" = some (some (.int 12 tt_MOST_CHILDREN)))
    (zc_MOST_FEW : PySem.W.nsIn K mainGlobals "MOST_FEW" = some (some (.int 3 tt_MOST_FEW)))
    (zc_MOST_PARTS : PySem.W.nsIn K mainGlobals "MOST_PARTS" = some (some (.int 9 tt_MOST_PARTS)))
    (zc_MOST_START : PySem.W.nsIn K mainGlobals "MOST_START" = some (some (.int 9 tt_MOST_START)))
    (ea_BadChildren : PySem.W.nsIn K mainGlobals "BadChildren" = some (some (.ref e_BadChildren)))
    (ek_BadChildren : PySem.W.keepIn K (.ref e_BadChildren) = true)
    (es_BadChildren : PySem.W.subIn K (.ref e_BadChildren) (.type "BaseException") = some true)
    (et_BadChildren : PySem.W.typeIn K (.ref e_BadChildren) = some (.type "type"))
    (eq_BadChildren : PySem.W.excIn K e_BadChildren [.type "ValueError", .type "Exception", .type "BaseException", .type "object"] "ValueError.__new__" = true)
    (ea_BadMost : PySem.W.nsIn K mainGlobals "BadMost" = some (some (.ref e_BadMost)))
    (ek_BadMost : PySem.W.keepIn K (.ref e_BadMost) = true)
    (es_BadMost : PySem.W.subIn K (.ref e_BadMost) (.type "BaseException") = some true)
    (et_BadMost : PySem.W.typeIn K (.ref e_BadMost) = some (.type "type"))
    (eq_BadMost : PySem.W.excIn K e_BadMost [.type "ValueError", .type "Exception", .type "BaseException", .type "object"] "ValueError.__new__" = true)
    (ea_BadParts : PySem.W.nsIn K mainGlobals "BadParts" = some (some (.ref e_BadParts)))
    (ek_BadParts : PySem.W.keepIn K (.ref e_BadParts) = true)
    (es_BadParts : PySem.W.subIn K (.ref e_BadParts) (.type "BaseException") = some true)
    (et_BadParts : PySem.W.typeIn K (.ref e_BadParts) = some (.type "type"))
    (eq_BadParts : PySem.W.excIn K e_BadParts [.type "ValueError", .type "Exception", .type "BaseException", .type "object"] "ValueError.__new__" = true)
    (ea_BadSteps : PySem.W.nsIn K mainGlobals "BadSteps" = some (some (.ref e_BadSteps)))
    (ek_BadSteps : PySem.W.keepIn K (.ref e_BadSteps) = true)
    (es_BadSteps : PySem.W.subIn K (.ref e_BadSteps) (.type "BaseException") = some true)
    (et_BadSteps : PySem.W.typeIn K (.ref e_BadSteps) = some (.type "type"))
    (a_i_BadSteps : PySem.W.findIn K (.ref e_BadSteps) "__init__" = some (some (.ref f_i_BadSteps)))
    (l_i_BadSteps : K.lookup f_i_BadSteps = some ⟨oc_i_BadSteps, od_i_BadSteps, .func (PySem.W.fnOf "__init__" "BadSteps.__init__" (defArgs s_e_BadSteps) (defBody s_e_BadSteps) (defScope s_e_BadSteps) .none .none dc_i_BadSteps pm_i_BadSteps an_i_BadSteps cd_i_BadSteps ct_i_BadSteps), sl_i_BadSteps⟩)
    (c_i_BadSteps : PySem.W.codeIn K cd_i_BadSteps "BadSteps.__init__" = true)
    (k_i_BadSteps : PySem.W.keepIn K (.ref f_i_BadSteps) = true)
    (ty_BadSteps : PySem.W.typeIn K (.ref f_i_BadSteps) = some (.type "function"))
    (ex_BadSteps : K.lookup e_BadSteps = some (excClassObj n1_BadSteps n2_BadSteps e_BadSteps n3_BadSteps bs_BadSteps [.ref sS_BadSteps, .type "ValueError", .type "Exception", .type "BaseException", .type "object"] true sn_BadSteps sub_BadSteps ab_BadSteps col_BadSteps dd_BadSteps m0_BadSteps m1_BadSteps m2_BadSteps m3_BadSteps m5_BadSteps "ValueError.__new__"))
    (esa_BadSteps : PySem.W.findIn K (.ref e_BadSteps) "__setattr__" = some (some (.builtin "object.__setattr__")))
    (ega_BadSteps : PySem.W.findIn K (.ref e_BadSteps) "__getattribute__" = some (some (.builtin "BaseException.__getattribute__")))
    (egg_BadSteps : PySem.W.findIn K (.ref e_BadSteps) "__getattr__" = some none)
    (enb_BadSteps : PySem.W.findIn K (.ref e_BadSteps) "index" = some none)
    (ehd_BadSteps : PySem.W.hasDictIn K e_BadSteps = true)
    (ea_TooMany : PySem.W.nsIn K mainGlobals "TooMany" = some (some (.ref e_TooMany)))
    (ek_TooMany : PySem.W.keepIn K (.ref e_TooMany) = true)
    (es_TooMany : PySem.W.subIn K (.ref e_TooMany) (.type "BaseException") = some true)
    (et_TooMany : PySem.W.typeIn K (.ref e_TooMany) = some (.type "type"))
    (eq_TooMany : PySem.W.excIn K e_TooMany [.type "ValueError", .type "Exception", .type "BaseException", .type "object"] "ValueError.__new__" = true)
    : ∃ fd : FuncData, (∀ (s : Shared) (v : Value), BindsTo s fd ⟨[v], []⟩ [("_law_script", v)]) ∧ ∀ base : Heap, K.In base → base.Ns mainGlobals mg → FnOk P w K mg base (L2.CX P w) 8 fa fd ["_law_script"] (spTop K) := by
  have e := hfa.symm.trans (PySem.W.mg_of X GG a_law)
  cases e
  let cl : Str → Addr := clOf [("BadChildren", e_BadChildren), ("BadMost", e_BadMost), ("BadParts", e_BadParts), ("BadSteps", e_BadSteps), ("TooMany", e_TooMany)]
  have ce_BadChildren : cl "BadChildren" = e_BadChildren := by
    exact if_pos rfl
  have ce_BadMost : cl "BadMost" = e_BadMost := by
    refine (if_neg (by decide +kernel)).trans ?_
    exact if_pos rfl
  have ce_BadParts : cl "BadParts" = e_BadParts := by
    refine (if_neg (by decide +kernel)).trans ?_
    refine (if_neg (by decide +kernel)).trans ?_
    exact if_pos rfl
  have ce_BadSteps : cl "BadSteps" = e_BadSteps := by
    refine (if_neg (by decide +kernel)).trans ?_
    refine (if_neg (by decide +kernel)).trans ?_
    refine (if_neg (by decide +kernel)).trans ?_
    exact if_pos rfl
  have ce_TooMany : cl "TooMany" = e_TooMany := by
    refine (if_neg (by decide +kernel)).trans ?_
    refine (if_neg (by decide +kernel)).trans ?_
    refine (if_neg (by decide +kernel)).trans ?_
    refine (if_neg (by decide +kernel)).trans ?_
    exact if_pos rfl
  have T : Tx K mg cl := {
    dummy := trivial,
    b_abs := PySem.W.mg_none_of X GG z_abs,
    b_all := PySem.W.mg_none_of X GG z_all,
    b_bool := PySem.W.mg_none_of X GG z_bool,
    b_dict := PySem.W.mg_none_of X GG z_dict,
    b_enumerate := PySem.W.mg_none_of X GG z_enumerate,
    b_int := PySem.W.mg_none_of X GG z_int,
    b_isinstance := PySem.W.mg_none_of X GG z_isinstance,
    b_len := PySem.W.mg_none_of X GG z_len,
    b_list := PySem.W.mg_none_of X GG z_list,
    b_max := PySem.W.mg_none_of X GG z_max,
    b_range := PySem.W.mg_none_of X GG z_range,
    b_set := PySem.W.mg_none_of X GG z_set,
    b_sorted := PySem.W.mg_none_of X GG z_sorted,
    b_str := PySem.W.mg_none_of X GG z_str,
    b_sum := PySem.W.mg_none_of X GG z_sum,
    b_tuple := PySem.W.mg_none_of X GG z_tuple,
    c_MOST_CHILDREN := ⟨_, PySem.W.mg_of X GG zc_MOST_CHILDREN⟩,
    c_MOST_FEW := ⟨_, PySem.W.mg_of X GG zc_MOST_FEW⟩,
    c_MOST_PARTS := ⟨_, PySem.W.mg_of X GG zc_MOST_PARTS⟩,
    c_MOST_START := ⟨_, PySem.W.mg_of X GG zc_MOST_START⟩,
    e_BadChildren := (by rw [ce_BadChildren]; exact ⟨PySem.W.mg_of X GG ea_BadChildren, ek_BadChildren, eq_BadChildren, es_BadChildren, et_BadChildren⟩),
    e_BadMost := (by rw [ce_BadMost]; exact ⟨PySem.W.mg_of X GG ea_BadMost, ek_BadMost, eq_BadMost, es_BadMost, et_BadMost⟩),
    e_BadParts := (by rw [ce_BadParts]; exact ⟨PySem.W.mg_of X GG ea_BadParts, ek_BadParts, eq_BadParts, es_BadParts, et_BadParts⟩),
    f_BadSteps := f_i_BadSteps,
    e_BadSteps := (by rw [ce_BadSteps]; exact { gC := PySem.W.mg_of X GG ea_BadSteps, cls := ⟨_, _, _, _, _, _, _, _, _, _, _, _, _, _, _, ex_BadSteps, by rfl⟩, sa := esa_BadSteps, ga := ega_BadSteps, gg := egg_BadSteps, noN := enb_BadSteps, iC := a_i_BadSteps, tC := ty_BadSteps, kC := ek_BadSteps, exC := es_BadSteps, tyC := et_BadSteps, hdC := ehd_BadSteps, fn := ⟨_, _, _, _, _, _, _, _, _, _, _, _, _, _, l_i_BadSteps, c_i_BadSteps⟩ }),
    e_TooMany := (by rw [ce_TooMany]; exact ⟨PySem.W.mg_of X GG ea_TooMany, ek_TooMany, eq_TooMany, es_TooMany, et_TooMany⟩),
    }
  have F_law_below := fnd_mk (st := s_law_below) l_law_below c_law_below k_law_below
  have b_law_below := F_law_below.bindsN (ps := ["_law_d", "_law_size"]) fun _ _ _ _ _ _ us hl => match us, hl with | [_, _], _ => rfl
  have D_law_below : Dn K mg "_law_below" s_law_below ["_law_d", "_law_size"] [] [] f_law_below _ := ⟨F_law_below, PySem.W.mg_of X GG a_law_below, b_law_below, b_law_below, .nil⟩
  have F_law_counted := fnd_mk (st := s_law_counted) l_law_counted c_law_counted k_law_counted
  have b_law_counted := F_law_counted.bindsN (ps := ["_law_things"]) fun _ _ _ _ _ _ us hl => match us, hl with | [_], _ => rfl
  have D_law_counted : Dn K mg "_law_counted" s_law_counted ["_law_things"] [] [] f_law_counted _ := ⟨F_law_counted, PySem.W.mg_of X GG a_law_counted, b_law_counted, b_law_counted, .nil⟩
  have F_law_equal := fnd_mk (st := s_law_equal) l_law_equal c_law_equal k_law_equal
  have b_law_equal := F_law_equal.bindsN (ps := ["_law_actual", "_law_expected"]) fun _ _ _ _ _ _ us hl => match us, hl with | [_, _], _ => rfl
  have D_law_equal : Dn K mg "_law_equal" s_law_equal ["_law_actual", "_law_expected"] [] [] f_law_equal _ := ⟨F_law_equal, PySem.W.mg_of X GG a_law_equal, b_law_equal, b_law_equal, .nil⟩
  have F_is_integer := fnd_mk (st := s_is_integer) l_is_integer c_is_integer k_is_integer
  have b_is_integer := F_is_integer.bindsN (ps := ["value"]) fun _ _ _ _ _ _ us hl => match us, hl with | [_], _ => rfl
  have D_is_integer : Dn K mg "is_integer" s_is_integer ["value"] [] [] f_is_integer _ := ⟨F_is_integer, PySem.W.mg_of X GG a_is_integer, b_is_integer, b_is_integer, .nil⟩
  have F_is_from := fnd_mk (st := s_is_from) l_is_from c_is_from k_is_from
  have b_is_from := F_is_from.bindsN (ps := ["value", "low", "high"]) fun _ _ _ _ _ _ us hl => match us, hl with | [_, _, _], _ => rfl
  have D_is_from : Dn K mg "is_from" s_is_from ["value", "low", "high"] [] [] f_is_from _ := ⟨F_is_from, PySem.W.mg_of X GG a_is_from, b_is_from, b_is_from, .nil⟩
  have F_law_pick := fnd_mk (st := s_law_pick) l_law_pick c_law_pick k_law_pick
  have b_law_pick := F_law_pick.bindsN (ps := ["_law_d", "_law_items"]) fun _ _ _ _ _ _ us hl => match us, hl with | [_, _], _ => rfl
  have D_law_pick : Dn K mg "_law_pick" s_law_pick ["_law_d", "_law_items"] [] [] f_law_pick _ := ⟨F_law_pick, PySem.W.mg_of X GG a_law_pick, b_law_pick, b_law_pick, .nil⟩
  have F_law_game := fnd_mk (st := s_law_game) l_law_game c_law_game k_law_game
  have b_law_game := F_law_game.bindsN (ps := ["_law_d", "_law_most"]) fun _ _ _ _ _ _ us hl => match us, hl with | [_, _], _ => rfl
  have D_law_game : Dn K mg "_law_game" s_law_game ["_law_d", "_law_most"] [] [] f_law_game _ := ⟨F_law_game, PySem.W.mg_of X GG a_law_game, b_law_game, b_law_game, .nil⟩
  have F_law_random := fnd_mk (st := s_law_random) l_law_random c_law_random k_law_random
  have b_law_random := F_law_random.bindsN (ps := ["_law_script", "_law_salt"]) fun _ _ _ _ _ _ us hl => match us, hl with | [_, _], _ => rfl
  have D_law_random : Dn K mg "_law_random" s_law_random ["_law_script", "_law_salt"] [] [] f_law_random _ := ⟨F_law_random, PySem.W.mg_of X GG a_law_random, b_law_random, b_law_random, .nil⟩
  have F_law_round := fnd_mk (st := s_law_round) l_law_round c_law_round k_law_round
  have b_law_round := F_law_round.bindsN (ps := ["_law_game_here", "_law_sweets"]) fun _ _ _ _ _ _ us hl => match us, hl with | [_, _], _ => rfl
  have D_law_round : Dn K mg "_law_round" s_law_round ["_law_game_here", "_law_sweets"] [] [] f_law_round _ := ⟨F_law_round, PySem.W.mg_of X GG a_law_round, b_law_round, b_law_round, .nil⟩
  have F_law_rows := fnd_mk (st := s_law_rows) l_law_rows c_law_rows k_law_rows
  have b_law_rows := F_law_rows.bindsN (ps := ["_law_game_here", "_law_sweets"]) fun _ _ _ _ _ _ us hl => match us, hl with | [_, _], _ => rfl
  have D_law_rows : Dn K mg "_law_rows" s_law_rows ["_law_game_here", "_law_sweets"] [] [] f_law_rows _ := ⟨F_law_rows, PySem.W.mg_of X GG a_law_rows, b_law_rows, b_law_rows, .nil⟩
  have F_law_starts := fnd_mk (st := s_law_starts) l_law_starts c_law_starts k_law_starts
  have b_law_starts := F_law_starts.bindsN (ps := ["_law_game_here", "_law_most"]) fun _ _ _ _ _ _ us hl => match us, hl with | [_, _], _ => rfl
  have D_law_starts : Dn K mg "_law_starts" s_law_starts ["_law_game_here", "_law_most"] [] [] f_law_starts _ := ⟨F_law_starts, PySem.W.mg_of X GG a_law_starts, b_law_starts, b_law_starts, .nil⟩
  have F_filled_by := fnd_mk (st := s_filled_by) l_filled_by c_filled_by k_filled_by
  have b_filled_by := F_filled_by.bindsN (ps := ["game", "sweets"]) fun _ _ _ _ _ _ us hl => match us, hl with | [_, _], _ => rfl
  have D_filled_by : Dn K mg "filled_by" s_filled_by ["game", "sweets"] [] [] f_filled_by _ := ⟨F_filled_by, PySem.W.mg_of X GG a_filled_by, b_filled_by, b_filled_by, .nil⟩
  have F_passed := fnd_mk (st := s_passed) l_passed c_passed k_passed
  have b_passed := F_passed.bindsN (ps := ["game", "sweets"]) fun _ _ _ _ _ _ us hl => match us, hl with | [_, _], _ => rfl
  have D_passed : Dn K mg "passed" s_passed ["game", "sweets"] [] [] f_passed _ := ⟨F_passed, PySem.W.mg_of X GG a_passed, b_passed, b_passed, .nil⟩
  have F_all_rows := fnd_mk (st := s_all_rows) l_all_rows c_all_rows k_all_rows
  have b_all_rows := F_all_rows.bindsN (ps := ["game", "sweets"]) fun _ _ _ _ _ _ us hl => match us, hl with | [_, _], _ => rfl
  have D_all_rows : Dn K mg "all_rows" s_all_rows ["game", "sweets"] [] [] f_all_rows _ := ⟨F_all_rows, PySem.W.mg_of X GG a_all_rows, b_all_rows, b_all_rows, .nil⟩
  have F_check_few := fnd_mk (st := s_check_few) l_check_few c_check_few k_check_few
  have b_check_few := F_check_few.bindsN (ps := ["game", "most"]) fun _ _ _ _ _ _ us hl => match us, hl with | [_, _], _ => rfl
  have D_check_few : Dn K mg "check_few" s_check_few ["game", "most"] [] [] f_check_few _ := ⟨F_check_few, PySem.W.mg_of X GG a_check_few, b_check_few, b_check_few, .nil⟩
  have F_counted := fnd_mk (st := s_counted) l_counted c_counted k_counted
  have b_counted := F_counted.bindsN (ps := ["things"]) fun _ _ _ _ _ _ us hl => match us, hl with | [_], _ => rfl
  have D_counted : Dn K mg "counted" s_counted ["things"] [] [] f_counted _ := ⟨F_counted, PySem.W.mg_of X GG a_counted, b_counted, b_counted, .nil⟩
  have F_starts_of := fnd_mk (st := s_starts_of) l_starts_of c_starts_of k_starts_of
  have b_starts_of := F_starts_of.bindsN (ps := ["game", "most"]) fun _ _ _ _ _ _ us hl => match us, hl with | [_, _], _ => rfl
  have D_starts_of : Dn K mg "starts_of" s_starts_of ["game", "most"] [] [] f_starts_of _ := ⟨F_starts_of, PySem.W.mg_of X GG a_starts_of, b_starts_of, b_starts_of, .nil⟩
  have F_ends_of := fnd_mk (st := s_ends_of) l_ends_of c_ends_of k_ends_of
  have b_ends_of := F_ends_of.bindsN (ps := ["game", "most"]) fun _ _ _ _ _ _ us hl => match us, hl with | [_, _], _ => rfl
  have D_ends_of : Dn K mg "ends_of" s_ends_of ["game", "most"] [] [] f_ends_of _ := ⟨F_ends_of, PySem.W.mg_of X GG a_ends_of, b_ends_of, b_ends_of, .nil⟩
  have F_longest := fnd_mk (st := s_longest) l_longest c_longest k_longest
  have b_longest := F_longest.bindsN (ps := ["game", "most"]) fun _ _ _ _ _ _ us hl => match us, hl with | [_, _], _ => rfl
  have D_longest : Dn K mg "longest" s_longest ["game", "most"] [] [] f_longest _ := ⟨F_longest, PySem.W.mg_of X GG a_longest, b_longest, b_longest, .nil⟩
  have F_rounds_of := fnd_mk (st := s_rounds_of) l_rounds_of c_rounds_of k_rounds_of
  have b_rounds_of := F_rounds_of.bindsN (ps := ["game", "most"]) fun _ _ _ _ _ _ us hl => match us, hl with | [_, _], _ => rfl
  have D_rounds_of : Dn K mg "rounds_of" s_rounds_of ["game", "most"] [] [] f_rounds_of _ := ⟨F_rounds_of, PySem.W.mg_of X GG a_rounds_of, b_rounds_of, b_rounds_of, .nil⟩
  have F_law := fnd_mk (st := s_law) l_law c_law k_law
  have b_law := F_law.bindsN (ps := ["_law_script"]) fun _ _ _ _ _ _ us hl => match us, hl with | [_], _ => rfl
  have D_law : Dn K mg "law" s_law ["_law_script"] [] [] fa _ := ⟨F_law, PySem.W.mg_of X GG a_law, b_law, b_law, .nil⟩
  have F_Gi := fnd_mk (st := s_Game_init) l_Gi c_Gi k_Gi
  have b_Gi := F_Gi.bindsN (ps := ["self", "children", "parts", "steps"]) fun _ _ _ _ _ _ us hl => match us, hl with | [_, _, _, _], _ => rfl
  have cls : Cls K cG := ⟨gpg, ghd, gpo, gsa⟩
  have F_q_children := fnd_mk (st := s_p_children) l_q_children c_q_children k_q_children
  have b_q_children := F_q_children.bindsN (ps := ["self"]) fun _ _ _ _ _ _ us hl => match us, hl with | [_], _ => rfl
  have F_q_parts := fnd_mk (st := s_p_parts) l_q_parts c_q_parts k_q_parts
  have b_q_parts := F_q_parts.bindsN (ps := ["self"]) fun _ _ _ _ _ _ us hl => match us, hl with | [_], _ => rfl
  have F_q_steps := fnd_mk (st := s_p_steps) l_q_steps c_q_steps k_q_steps
  have b_q_steps := F_q_steps.bindsN (ps := ["self"]) fun _ _ _ _ _ _ us hl => match us, hl with | [_], _ => rfl
  refine ⟨_, fun s v => F_law.bindsA (ps := ["_law_script"]) (fun _ _ _ _ _ _ us hl => match us, hl with | [_], _ => rfl) s [v] rfl, fun base _ _ => ?_⟩
  have GM : Gm P w K mg base cG f_Gi _ := {
    cl := cls, gC := PySem.W.mg_of X GG aG, mkg := ⟨gmk, a_Gi, iGi, gkc⟩, bi := b_Gi, pc := p_children, pp := p_parts, ps := p_steps, gc := f_q_children, gp := f_q_parts, gs := f_q_steps, dc := _, dp := _, ds := _,
    p_children := ⟨pa_children, pg_children, pt_children, _, pr1_children⟩, p_parts := ⟨pa_parts, pg_parts, pt_parts, _, pr1_parts⟩, p_steps := ⟨pa_steps, pg_steps, pt_steps, _, pr1_steps⟩,
    k_children := fn_getter l_q_children c_q_children sc_p_children rfl rfl cls gn_size, b_children := b_q_children,
    k_parts := fn_getter l_q_parts c_q_parts sc_p_parts rfl rfl cls gn_share, b_parts := b_q_parts,
    k_steps := fn_getter l_q_steps c_q_steps sc_p_steps rfl rfl cls gn_ways, b_steps := b_q_steps,
    n_size := gn_size, n_share := gn_share, n_ways := gn_ways }
  have G_law_below : FnOk P w K mg base (L2.CX P w) 3 f_law_below _ ["_law_d", "_law_size"] (upSp ⟨K, cG, cl⟩ sp_law_below) := ok_law_below F_law_below T
  have G_law_counted : FnOk P w K mg base (L2.CX P w) 3 f_law_counted _ ["_law_things"] (upSp ⟨K, cG, cl⟩ sp_law_counted) := ok_law_counted F_law_counted T
  have G_law_equal : FnOk P w K mg base (L2.CX P w) 7 f_law_equal _ ["_law_actual", "_law_expected"] (upSp ⟨K, cG, cl⟩ spEq) := ok_law_equal D_law_equal T 4 (by decide)
  have G_is_integer : FnOk P w K mg base (L2.CX P w) 3 f_is_integer _ ["value"] (upSp ⟨K, cG, cl⟩ sp_is_integer) := ok_is_integer F_is_integer T
  have G_is_from : FnOk P w K mg base (L2.CX P w) 4 f_is_from _ ["value", "low", "high"] (upSp ⟨K, cG, cl⟩ sp_is_from) := ok_is_from F_is_from D_is_integer G_is_integer
  have G_Game_init : FnOk P w K mg base (L2.CX P w) 5 f_Gi _ ["self", "children", "parts", "steps"] (upSp ⟨K, cG, cl⟩ (sp_Game_init cG)) := ok_Game_init F_Gi T GM D_is_from G_is_from
  have G_law_pick : FnOk P w K mg base (L2.CX P w) 4 f_law_pick _ ["_law_d", "_law_items"] (upSp ⟨K, cG, cl⟩ sp_law_pick) := ok_law_pick F_law_pick T D_law_below G_law_below
  have G_law_game : FnOk P w K mg base (L2.CX P w) 7 f_law_game _ ["_law_d", "_law_most"] (upSp ⟨K, cG, cl⟩ (sp_law_game cG)) := ok_law_game F_law_game T GM G_Game_init D_law_below G_law_below D_law_pick G_law_pick
  have G_law_random : FnOk P w K mg base (L2.CX P w) 3 f_law_random _ ["_law_script", "_law_salt"] (upSp ⟨K, cG, cl⟩ sp_law_random) := ok_law_random F_law_random T
  have G_law_round : FnOk P w K mg base (L2.CX P w) 3 f_law_round _ ["_law_game_here", "_law_sweets"] (upSp ⟨K, cG, cl⟩ sp_law_round) := ok_law_round F_law_round T GM
  have G_law_rows : FnOk P w K mg base (L2.CX P w) 4 f_law_rows _ ["_law_game_here", "_law_sweets"] (upSp ⟨K, cG, cl⟩ sp_law_rows) := ok_law_rows F_law_rows T D_law_round G_law_round
  have G_law_starts : FnOk P w K mg base (L2.CX P w) 3 f_law_starts _ ["_law_game_here", "_law_most"] (upSp ⟨K, cG, cl⟩ sp_law_starts) := ok_law_starts F_law_starts T GM
  have G_filled_by : FnOk P w K mg base (L2.CX P w) 3 f_filled_by _ ["game", "sweets"] (upSp ⟨K, cG, cl⟩ sp_filled_by) := ok_filled_by F_filled_by T GM
  have G_passed : FnOk P w K mg base (L2.CX P w) 4 f_passed _ ["game", "sweets"] (upSp ⟨K, cG, cl⟩ sp_passed) := ok_passed F_passed T GM D_filled_by G_filled_by
  have G_all_rows : FnOk P w K mg base (L2.CX P w) 5 f_all_rows _ ["game", "sweets"] (upSp ⟨K, cG, cl⟩ sp_all_rows) := ok_all_rows F_all_rows D_passed G_passed
  have G_check_few : FnOk P w K mg base (L2.CX P w) 5 f_check_few _ ["game", "most"] (upSp ⟨K, cG, cl⟩ sp_check_few) := ok_check_few F_check_few T GM D_is_from G_is_from
  have G_counted : FnOk P w K mg base (L2.CX P w) 3 f_counted _ ["things"] (upSp ⟨K, cG, cl⟩ sp_counted) := ok_counted F_counted T
  have G_starts_of : FnOk P w K mg base (L2.CX P w) 3 f_starts_of _ ["game", "most"] (upSp ⟨K, cG, cl⟩ sp_starts_of) := ok_starts_of F_starts_of T GM
  have G_ends_of : FnOk P w K mg base (L2.CX P w) 6 f_ends_of _ ["game", "most"] (upSp ⟨K, cG, cl⟩ sp_ends_of) := ok_ends_of F_ends_of D_all_rows G_all_rows D_check_few G_check_few D_counted G_counted D_starts_of G_starts_of
  have G_longest : FnOk P w K mg base (L2.CX P w) 6 f_longest _ ["game", "most"] (upSp ⟨K, cG, cl⟩ sp_longest) := ok_longest F_longest T D_all_rows G_all_rows D_check_few G_check_few D_starts_of G_starts_of
  have G_rounds_of : FnOk P w K mg base (L2.CX P w) 6 f_rounds_of _ ["game", "most"] (upSp ⟨K, cG, cl⟩ sp_rounds_of) := ok_rounds_of F_rounds_of T D_all_rows G_all_rows D_check_few G_check_few D_counted G_counted D_starts_of G_starts_of
  have G_law : FnOk P w K mg base (L2.CX P w) 8 fa _ ["_law_script"] (upSp ⟨K, cG, cl⟩ sp_law) := ok_law F_law T GM D_law_below G_law_below D_law_counted G_law_counted D_law_equal G_law_equal D_law_game G_law_game D_law_random G_law_random D_law_rows G_law_rows D_law_starts G_law_starts D_ends_of G_ends_of D_longest G_longest D_rounds_of G_rounds_of
  exact G_law.imp (top_imp (C := ⟨K, cG, cl⟩) fun l X k hl hk => law_starts l X k hl hk)
end Lw
open PySem PySem.W PyProof.Rows in
set_option maxRecDepth 100000 in
set_option maxHeartbeats 0 in
theorem PySem.Challenge.cw_sweetsring_k12_whole_starts_holds : PySem.Challenge.rw_sweetsring_k12_whole_starts.Holds := by
  w_on; o_law; k_head; (case hw => w_witness2)
  k_fill
  refine PD.walkL (l := PySem.Challenge.rw_sweetsring_k12_whole_starts) (k := 8) (x := "_law_script") rfl rfl ⟨rfl, by decide, by decide⟩ (fun w h Y => PySem.W.kIn_of Y) ?F
  case F =>
    intro w mg fa h KX G hmg
    refine' Lw.all_mk KX G hmg ?a_law_below ?l_law_below ?c_law_below ?k_law_below ?a_law_counted ?l_law_counted ?c_law_counted ?k_law_counted ?a_law_equal ?l_law_equal ?c_law_equal ?k_law_equal ?a_is_integer ?l_is_integer ?c_is_integer ?k_is_integer ?a_is_from ?l_is_from ?c_is_from ?k_is_from ?a_law_pick ?l_law_pick ?c_law_pick ?k_law_pick ?a_law_game ?l_law_game ?c_law_game ?k_law_game ?a_law_random ?l_law_random ?c_law_random ?k_law_random ?a_law_round ?l_law_round ?c_law_round ?k_law_round ?a_law_rows ?l_law_rows ?c_law_rows ?k_law_rows ?a_law_starts ?l_law_starts ?c_law_starts ?k_law_starts ?a_filled_by ?l_filled_by ?c_filled_by ?k_filled_by ?a_passed ?l_passed ?c_passed ?k_passed ?a_all_rows ?l_all_rows ?c_all_rows ?k_all_rows ?a_check_few ?l_check_few ?c_check_few ?k_check_few ?a_counted ?l_counted ?c_counted ?k_counted ?a_starts_of ?l_starts_of ?c_starts_of ?k_starts_of ?a_ends_of ?l_ends_of ?c_ends_of ?k_ends_of ?a_longest ?l_longest ?c_longest ?k_longest ?a_rounds_of ?l_rounds_of ?c_rounds_of ?k_rounds_of ?a_law ?l_law ?c_law ?k_law ?aG ?a_Gi ?l_Gi ?c_Gi ?k_Gi ?iGi ?pa_children ?pg_children ?pt_children ?pr1_children ?l_q_children ?c_q_children ?k_q_children ?pa_parts ?pg_parts ?pt_parts ?pr1_parts ?l_q_parts ?c_q_parts ?k_q_parts ?pa_steps ?pg_steps ?pt_steps ?pr1_steps ?l_q_steps ?c_q_steps ?k_q_steps ?gpg ?ghd ?gpo ?gsa ?gmk ?gkc ?gn_size ?gn_share ?gn_ways ?z_abs ?z_all ?z_bool ?z_dict ?z_enumerate ?z_int ?z_isinstance ?z_len ?z_list ?z_max ?z_range ?z_set ?z_sorted ?z_str ?z_sum ?z_tuple ?zc_MOST_CHILDREN ?zc_MOST_FEW ?zc_MOST_PARTS ?zc_MOST_START ?ea_BadChildren ?ek_BadChildren ?es_BadChildren ?et_BadChildren ?eq_BadChildren ?ea_BadMost ?ek_BadMost ?es_BadMost ?et_BadMost ?eq_BadMost ?ea_BadParts ?ek_BadParts ?es_BadParts ?et_BadParts ?eq_BadParts ?ea_BadSteps ?ek_BadSteps ?es_BadSteps ?et_BadSteps ?a_i_BadSteps ?l_i_BadSteps ?c_i_BadSteps ?k_i_BadSteps ?ty_BadSteps ?ex_BadSteps ?esa_BadSteps ?ega_BadSteps ?egg_BadSteps ?enb_BadSteps ?ehd_BadSteps ?ea_TooMany ?ek_TooMany ?es_TooMany ?et_TooMany ?eq_TooMany
    (case a_law_below => k_is)
    (case l_law_below => k_is)
    (case c_law_below => k_is)
    (case k_law_below => k_is)
    (case a_law_counted => k_is)
    (case l_law_counted => k_is)
    (case c_law_counted => k_is)
    (case k_law_counted => k_is)
    (case a_law_equal => k_is)
    (case l_law_equal => k_is)
    (case c_law_equal => k_is)
    (case k_law_equal => k_is)
    (case a_is_integer => k_is)
    (case l_is_integer => k_is)
    (case c_is_integer => k_is)
    (case k_is_integer => k_is)
    (case a_is_from => k_is)
    (case l_is_from => k_is)
    (case c_is_from => k_is)
    (case k_is_from => k_is)
    (case a_law_pick => k_is)
    (case l_law_pick => k_is)
    (case c_law_pick => k_is)
    (case k_law_pick => k_is)
    (case a_law_game => k_is)
    (case l_law_game => k_is)
    (case c_law_game => k_is)
    (case k_law_game => k_is)
    (case a_law_random => k_is)
    (case l_law_random => k_is)
    (case c_law_random => k_is)
    (case k_law_random => k_is)
    (case a_law_round => k_is)
    (case l_law_round => k_is)
    (case c_law_round => k_is)
    (case k_law_round => k_is)
    (case a_law_rows => k_is)
    (case l_law_rows => k_is)
    (case c_law_rows => k_is)
    (case k_law_rows => k_is)
    (case a_law_starts => k_is)
    (case l_law_starts => k_is)
    (case c_law_starts => k_is)
    (case k_law_starts => k_is)
    (case a_filled_by => k_is)
    (case l_filled_by => k_is)
    (case c_filled_by => k_is)
    (case k_filled_by => k_is)
    (case a_passed => k_is)
    (case l_passed => k_is)
    (case c_passed => k_is)
    (case k_passed => k_is)
    (case a_all_rows => k_is)
    (case l_all_rows => k_is)
    (case c_all_rows => k_is)
    (case k_all_rows => k_is)
    (case a_check_few => k_is)
    (case l_check_few => k_is)
    (case c_check_few => k_is)
    (case k_check_few => k_is)
    (case a_counted => k_is)
    (case l_counted => k_is)
    (case c_counted => k_is)
    (case k_counted => k_is)
    (case a_starts_of => k_is)
    (case l_starts_of => k_is)
    (case c_starts_of => k_is)
    (case k_starts_of => k_is)
    (case a_ends_of => k_is)
    (case l_ends_of => k_is)
    (case c_ends_of => k_is)
    (case k_ends_of => k_is)
    (case a_longest => k_is)
    (case l_longest => k_is)
    (case c_longest => k_is)
    (case k_longest => k_is)
    (case a_rounds_of => k_is)
    (case l_rounds_of => k_is)
    (case c_rounds_of => k_is)
    (case k_rounds_of => k_is)
    (case a_law => k_is)
    (case l_law => k_is)
    (case c_law => k_is)
    (case k_law => k_is)
    (case aG => k_is)
    (case a_Gi => k_is)
    (case l_Gi => k_is)
    (case c_Gi => k_is)
    (case k_Gi => k_is)
    (case iGi => k_is)
    (case pa_children => k_is)
    (case pg_children => k_is)
    (case pt_children => k_is)
    (case pr1_children => k_is)
    (case l_q_children => k_is)
    (case c_q_children => k_is)
    (case k_q_children => k_is)
    (case pa_parts => k_is)
    (case pg_parts => k_is)
    (case pt_parts => k_is)
    (case pr1_parts => k_is)
    (case l_q_parts => k_is)
    (case c_q_parts => k_is)
    (case k_q_parts => k_is)
    (case pa_steps => k_is)
    (case pg_steps => k_is)
    (case pt_steps => k_is)
    (case pr1_steps => k_is)
    (case l_q_steps => k_is)
    (case c_q_steps => k_is)
    (case k_q_steps => k_is)
    (case gpg => k_is)
    (case ghd => k_is)
    (case gpo => k_is)
    (case gsa => k_is)
    (case gmk => k_is)
    (case gkc => k_is)
    (case gn_size => k_is)
    (case gn_share => k_is)
    (case gn_ways => k_is)
    (case z_abs => k_is)
    (case z_all => k_is)
    (case z_bool => k_is)
    (case z_dict => k_is)
    (case z_enumerate => k_is)
    (case z_int => k_is)
    (case z_isinstance => k_is)
    (case z_len => k_is)
    (case z_list => k_is)
    (case z_max => k_is)
    (case z_range => k_is)
    (case z_set => k_is)
    (case z_sorted => k_is)
    (case z_str => k_is)
    (case z_sum => k_is)
    (case z_tuple => k_is)
    (case zc_MOST_CHILDREN => k_is)
    (case zc_MOST_FEW => k_is)
    (case zc_MOST_PARTS => k_is)
    (case zc_MOST_START => k_is)
    (case ea_BadChildren => k_is)
    (case ek_BadChildren => k_is)
    (case es_BadChildren => k_is)
    (case et_BadChildren => k_is)
    (case eq_BadChildren => k_exc)
    (case ea_BadMost => k_is)
    (case ek_BadMost => k_is)
    (case es_BadMost => k_is)
    (case et_BadMost => k_is)
    (case eq_BadMost => k_exc)
    (case ea_BadParts => k_is)
    (case ek_BadParts => k_is)
    (case es_BadParts => k_is)
    (case et_BadParts => k_is)
    (case eq_BadParts => k_exc)
    (case ea_BadSteps => k_is)
    (case ek_BadSteps => k_is)
    (case es_BadSteps => k_is)
    (case et_BadSteps => k_is)
    (case a_i_BadSteps => k_is)
    (case l_i_BadSteps => k_is)
    (case c_i_BadSteps => k_is)
    (case k_i_BadSteps => k_is)
    (case ty_BadSteps => k_is)
    (case ex_BadSteps => k_is)
    (case esa_BadSteps => k_is)
    (case ega_BadSteps => k_is)
    (case egg_BadSteps => k_is)
    (case enb_BadSteps => k_is)
    (case ehd_BadSteps => k_is)
    (case ea_TooMany => k_is)
    (case ek_TooMany => k_is)
    (case es_TooMany => k_is)
    (case et_TooMany => k_is)
    (case eq_TooMany => k_exc)

