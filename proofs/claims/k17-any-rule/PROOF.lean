import PyProof.Rows.All
import Wide.All
import OpenK.AllK
import Wide.FinOn
import HandS.ForExc
import HandS.Defaults
import PySem.Challenge.RW_undobystate_k17_whole_any_rule
import PyProof.EnumMake
import PyProof.Draws
import PyProof.TupleIter
import KE.GoesMore
import KE.KDictDisplayH
import KE.KIndexOf
import HandS.Base
import HandS.Call
import HandS.List
import HandS.Iter
import HandS.Dict
import HandS.Conv
import HandS.Sort
import HandS.TupMul
import HandS.ReCall
import PyProof.Rows.TupDisplay
import HandS.Comp
import HandS.Ends
import HandS.Words
import HandS.WordsList
import HandS.WordsDict
import HandS.IsInst
import HandS.TupAny
import HandS.Deep
import HandS.SortInts
import HandS.Walk
import KE.KStateDown
import Lean
import HandS.More
import HandS.WordsExc
import HandS.Head0
import HandS.Head1
import HandS.Head2
import HandS.HeadEnd
import HandS.HeadHook1
import HandS.HeadHook2
set_option Elab.async false
set_option linter.all false
set_option maxRecDepth 100000
/-! UbMath: the plain law: systems, rules, searches; no program in sight. -/
namespace Ub

/-! ### lists -/
theorem length_le_of_subset {α : Type} [DecidableEq α] : ∀ (l l' : List α), l.Nodup → (∀ x ∈ l, x ∈ l') → l.length ≤ l'.length
  | [], l', _, _ => Nat.zero_le _
  | x :: l, l', hn, hs => by
    have hx := hs x List.mem_cons_self
    rw [List.nodup_cons] at hn
    have h1 := length_le_of_subset l (l'.erase x) hn.2 (fun y hy => by
      have hne : y ≠ x := fun e => hn.1 (e ▸ hy)
      exact (List.mem_erase_of_ne hne).mpr (hs y (List.mem_cons_of_mem _ hy)))
    rw [List.length_erase_of_mem hx] at h1
    have h2 : 0 < l'.length := List.length_pos_of_mem hx
    rw [List.length_cons]
    omega

theorem nodup_map_of {α β : Type} {f : α → β} {l : List α} (hn : l.Nodup) (hf : ∀ a ∈ l, ∀ b ∈ l, f a = f b → a = b) : (l.map f).Nodup := by
  unfold List.Nodup at *
  rw [List.pairwise_map]
  exact hn.imp_of_mem fun ha hb hab e => hab (hf _ ha _ hb e)

theorem nodup_lt {l : List Nat} {N : Nat} (hn : l.Nodup) (hb : ∀ x ∈ l, x < N) : l.length ≤ N := by
  have h := length_le_of_subset l (List.range N) hn fun x hx => List.mem_range.mpr (hb x hx)
  rw [List.length_range] at h
  exact h

abbrev Pair := Nat × Nat
abbrev Triple := Nat × Nat × Nat

theorem bound_pairs {l : List Pair} (hn : l.Nodup) (hb : ∀ p ∈ l, p.1 < 4 ∧ p.2 < 4) : l.length ≤ 16 := by
  have h := nodup_lt (l := l.map fun p => p.1 * 4 + p.2) (N := 16) (nodup_map_of hn fun a ha b hb' e => by
    have h1 := hb a ha
    have h2 := hb b hb'
    have e1 : a.1 = b.1 := by omega
    have e2 : a.2 = b.2 := by omega
    exact Prod.ext e1 e2) fun x hx => by
      obtain ⟨p, hp, rfl⟩ := List.mem_map.mp hx
      have h1 := hb p hp
      show p.1 * 4 + p.2 < 16
      omega
  rw [List.length_map] at h
  exact h

theorem bound_triples {l : List Triple} (hn : l.Nodup) (hb : ∀ p ∈ l, p.1 < 4 ∧ p.2.1 < 4 ∧ p.2.2 < 8) : l.length ≤ 128 := by
  have h := nodup_lt (l := l.map fun p => (p.1 * 4 + p.2.1) * 8 + p.2.2) (N := 128) (nodup_map_of hn fun a ha b hb' e => by
    have h1 := hb a ha
    have h2 := hb b hb'
    have e1 : a.1 = b.1 := by omega
    have e2 : a.2.1 = b.2.1 := by omega
    have e3 : a.2.2 = b.2.2 := by omega
    exact Prod.ext e1 (Prod.ext e2 e3)) fun x hx => by
      obtain ⟨p, hp, rfl⟩ := List.mem_map.mp hx
      have h1 := hb p hp
      show (p.1 * 4 + p.2.1) * 8 + p.2.2 < 128
      omega
  rw [List.length_map] at h
  exact h

/-! ### a search -/
section
variable {α : Type} [DecidableEq α]
/-- what is reached from t0 by succ -/
inductive Rch (succ : α → List α) (t0 : α) : α → Prop where
  | base : Rch succ t0 t0
  | next {t u : α} : Rch succ t0 t → u ∈ succ t → Rch succ t0 u

/-- the last place, if not there yet -/
def ins (row : List α) (u : α) : List α := if u ∈ row then row else row ++ [u]
theorem ins_mem {row : List α} {u : α} : u ∈ ins row u := by
  unfold ins
  split
  · assumption
  · simp
theorem ins_sub {row : List α} {u x : α} (h : x ∈ row) : x ∈ ins row u := by
  unfold ins
  split
  · exact h
  · exact List.mem_append_left _ h
theorem ins_of {row : List α} {u x : α} (h : x ∈ ins row u) : x ∈ row ∨ x = u := by
  unfold ins at h
  split at h
  · exact .inl h
  · rcases List.mem_append.mp h with h | h
    · exact .inl h
    · exact .inr (List.mem_singleton.mp h)
theorem ins_nodup {row : List α} {u : α} (h : row.Nodup) : (ins row u).Nodup := by
  unfold ins
  split
  · exact h
  · rename_i hn
    rw [List.nodup_append]
    refine ⟨h, by simp, fun a ha b hb e => ?_⟩
    rw [List.mem_singleton] at hb
    exact hn (hb ▸ e ▸ ha)
theorem ins_pre {row : List α} {u : α} : row <+: ins row u := by
  unfold ins
  split
  · exact List.prefix_refl _
  · exact List.prefix_append _ _
theorem pre_get {l l' : List α} (h : l <+: l') {j : Nat} {t : α} (e : l[j]? = some t) : l'[j]? = some t := by
  obtain ⟨r, rfl⟩ := h
  have hj : j < l.length := (List.getElem?_eq_some_iff.mp e).1
  rw [List.getElem?_append_left hj]
  exact e

/-- the rows of a search by turns: the first i items have been looked at -/
structure Bfs (succ : α → List α) (ok : α → Prop) (t0 : α) (i : Nat) (row : List α) : Prop where
  nd : row.Nodup
  rch : ∀ t ∈ row, Rch succ t0 t
  has : t0 ∈ row
  done : ∀ j t, j < i → row[j]? = some t → ok t ∧ ∀ u ∈ succ t, u ∈ row
theorem Bfs.start {succ : α → List α} {ok : α → Prop} {t0 : α} : Bfs succ ok t0 0 [t0] where
  nd := by simp
  rch := fun t h => by
    rw [List.mem_singleton] at h
    subst h
    exact .base
  has := List.mem_singleton.mpr rfl
  done := fun j t h => absurd h (Nat.not_lt_zero _)
/-- one more successor of a known one -/
theorem Bfs.ins {succ : α → List α} {ok : α → Prop} {t0 : α} {i : Nat} {row : List α} (b : Bfs succ ok t0 i row) (hi : i ≤ row.length) {t u : α} (ht : t ∈ row) (hu : u ∈ succ t) : Bfs succ ok t0 i (ins row u) where
  nd := ins_nodup b.nd
  rch := fun x hx => by
    rcases ins_of hx with h | rfl
    · exact b.rch x h
    · exact .next (b.rch t ht) hu
  has := ins_sub b.has
  done := fun j x hj e => by
    have hl : j < row.length := by omega
    have e2 := pre_get (ins_pre (row := row) (u := u)) (List.getElem?_eq_getElem hl)
    rw [e2] at e
    have e3 : row[j]? = some x := by rw [List.getElem?_eq_getElem hl, e]
    obtain ⟨h1, h2⟩ := b.done j x hj e3
    exact ⟨h1, fun v hv => ins_sub (h2 v hv)⟩
theorem Bfs.turned {succ : α → List α} {ok : α → Prop} {t0 : α} {i : Nat} {row : List α} (b : Bfs succ ok t0 i row) {t : α} (e : row[i]? = some t) (h1 : ok t) (h2 : ∀ u ∈ succ t, u ∈ row) : Bfs succ ok t0 (i + 1) row where
  nd := b.nd
  rch := b.rch
  has := b.has
  done := fun j x hj ej => by
    by_cases h : j = i
    · subst h
      rw [e] at ej
      cases ej
      exact ⟨h1, h2⟩
    · exact b.done j x (by omega) ej
theorem Bfs.skip {succ : α → List α} {ok : α → Prop} {t0 : α} {i : Nat} {row : List α} (b : Bfs succ ok t0 i row) (hi : row.length ≤ i) : Bfs succ ok t0 (i + 1) row where
  nd := b.nd
  rch := b.rch
  has := b.has
  done := fun j x hj ej => b.done j x (by have := (List.getElem?_eq_some_iff.mp ej).1; omega) ej
theorem Bfs.all {succ : α → List α} {ok : α → Prop} {t0 : α} {i : Nat} {row : List α} (b : Bfs succ ok t0 i row) (hi : row.length ≤ i) {t : α} (h : Rch succ t0 t) : t ∈ row ∧ ok t ∧ ∀ u ∈ succ t, u ∈ row := by
  have key : ∀ x ∈ row, ok x ∧ ∀ u ∈ succ x, u ∈ row := fun x hx => by
    obtain ⟨j, hj⟩ := List.mem_iff_getElem?.mp hx
    exact b.done j x (by have := (List.getElem?_eq_some_iff.mp hj).1; omega) hj
  have hm : t ∈ row := by
    induction h with
    | base => exact b.has
    | next _ hu ih => exact (key _ ih).2 _ hu
  exact ⟨hm, key t hm⟩

/-- the known and the waiting ones of a search by a stack -/
structure Dfs (succ : α → List α) (ok : α → Prop) (t0 : α) (known waiting : List α) : Prop where
  nd : known.Nodup
  rch : ∀ t ∈ known, Rch succ t0 t
  has : t0 ∈ known
  sub : ∀ t ∈ waiting, t ∈ known
  done : ∀ t ∈ known, t ∈ waiting ∨ (ok t ∧ ∀ u ∈ succ t, u ∈ known)
/-- .. while t, just popped, is looked at -/
structure DfsAt (succ : α → List α) (ok : α → Prop) (t0 t : α) (known waiting : List α) : Prop where
  nd : known.Nodup
  rch : ∀ t ∈ known, Rch succ t0 t
  has : t0 ∈ known
  at_ : t ∈ known
  sub : ∀ t ∈ waiting, t ∈ known
  done : ∀ x ∈ known, x = t ∨ x ∈ waiting ∨ (ok x ∧ ∀ u ∈ succ x, u ∈ known)
theorem Dfs.start {succ : α → List α} {ok : α → Prop} {t0 : α} : Dfs succ ok t0 [t0] [t0] where
  nd := by simp
  rch := fun t h => by
    rw [List.mem_singleton] at h
    subst h
    exact .base
  has := List.mem_singleton.mpr rfl
  sub := fun _ h => h
  done := fun _ h => .inl h
theorem Dfs.pop {succ : α → List α} {ok : α → Prop} {t0 : α} {known w : List α} {t : α} (d : Dfs succ ok t0 known (w ++ [t])) : DfsAt succ ok t0 t known w where
  nd := d.nd
  rch := d.rch
  has := d.has
  at_ := d.sub t (by simp)
  sub := fun x hx => d.sub x (by simp [hx])
  done := fun x hx => by
    rcases d.done x hx with h | h
    · rcases List.mem_append.mp h with h | h
      · exact .inr (.inl h)
      · exact .inl (List.mem_singleton.mp h)
    · exact .inr (.inr h)
theorem DfsAt.put {succ : α → List α} {ok : α → Prop} {t0 t u : α} {known w : List α} (d : DfsAt succ ok t0 t known w) (hu : u ∈ succ t) (hn : u ∉ known) : DfsAt succ ok t0 t (known ++ [u]) (w ++ [u]) where
  nd := by
    have h := ins_nodup (u := u) d.nd
    unfold Ub.ins at h
    rw [if_neg hn] at h
    exact h
  rch := fun x hx => by
    rcases List.mem_append.mp hx with h | h
    · exact d.rch x h
    · rw [List.mem_singleton.mp h]
      exact .next (d.rch t d.at_) hu
  has := List.mem_append_left _ d.has
  at_ := List.mem_append_left _ d.at_
  sub := fun x hx => by
    rcases List.mem_append.mp hx with h | h
    · exact List.mem_append_left _ (d.sub x h)
    · exact List.mem_append_right _ h
  done := fun x hx => by
    rcases List.mem_append.mp hx with h | h
    · rcases d.done x h with h | h | ⟨h1, h2⟩
      · exact .inl h
      · exact .inr (.inl (List.mem_append_left _ h))
      · exact .inr (.inr ⟨h1, fun v hv => List.mem_append_left _ (h2 v hv)⟩)
    · exact .inr (.inl (List.mem_append_right _ h))
theorem DfsAt.close {succ : α → List α} {ok : α → Prop} {t0 t : α} {known w : List α} (d : DfsAt succ ok t0 t known w) (h1 : ok t) (h2 : ∀ u ∈ succ t, u ∈ known) : Dfs succ ok t0 known w where
  nd := d.nd
  rch := d.rch
  has := d.has
  sub := d.sub
  done := fun x hx => by
    rcases d.done x hx with rfl | h | h
    · exact .inr ⟨h1, h2⟩
    · exact .inl h
    · exact .inr h
theorem Dfs.all {succ : α → List α} {ok : α → Prop} {t0 : α} {known : List α} (d : Dfs succ ok t0 known []) {t : α} (h : Rch succ t0 t) : t ∈ known ∧ ok t := by
  have key : ∀ x ∈ known, ok x ∧ ∀ u ∈ succ x, u ∈ known := fun x hx => by
    rcases d.done x hx with h | h
    · exact absurd h (by simp)
    · exact h
  have hm : t ∈ known := by
    induction h with
    | base => exact d.has
    | next _ hu ih => exact (key _ ih).2 _ hu
  exact ⟨hm, (key t hm).1⟩
end

/-! ### systems and rules -/
theorem getD_of {α : Type} {l : List α} {i : Nat} {d : α} (h : i < l.length) : l[i]? = some (l.getD i d) ∧ l.getD i d ∈ l := by
  have e : l.getD i d = l[i] := by rw [List.getD_eq_getElem?_getD, List.getElem?_eq_getElem h]; rfl
  rw [e]
  exact ⟨List.getElem?_eq_getElem h, List.getElem_mem h⟩
structure Sys where
  n : Nat
  start : Nat
  T : List (List Nat)
structure Sys.Ok (S : Sys) : Prop where
  n1 : 1 ≤ S.n
  n4 : S.n ≤ 4
  st : S.start < S.n
  c1 : 1 ≤ S.T.length
  c3 : S.T.length ≤ 3
  tab : ∀ t ∈ S.T, t.length = S.n ∧ ∀ y ∈ t, y < S.n
def Sys.step (S : Sys) (x c : Nat) : Nat := (S.T.getD c []).getD x 0
theorem Sys.Ok.row {S : Sys} (ok : S.Ok) {c : Nat} (hc : c < S.T.length) : S.T[c]? = some (S.T.getD c []) ∧ (S.T.getD c []).length = S.n ∧ ∀ y ∈ S.T.getD c [], y < S.n := by
  have e : S.T.getD c [] = S.T[c] := by rw [List.getD_eq_getElem?_getD, List.getElem?_eq_getElem hc]; rfl
  rw [e]
  exact ⟨List.getElem?_eq_getElem hc, ok.tab _ (List.getElem_mem hc)⟩
theorem Sys.Ok.at_ {S : Sys} (ok : S.Ok) {x c : Nat} (hc : c < S.T.length) (hx : x < S.n) : (S.T.getD c [])[x]? = some (S.step x c) := by
  obtain ⟨_, h2, _⟩ := ok.row hc
  exact (getD_of (by omega)).1
theorem Sys.Ok.step_lt {S : Sys} (ok : S.Ok) {x c : Nat} (hc : c < S.T.length) (hx : x < S.n) : S.step x c < S.n :=
  (ok.row hc).2.2 _ (List.mem_of_getElem? (ok.at_ hc hx))

/-- the pairs that come next -/
def Sys.succ2 (S : Sys) (p : Pair) : List Pair := (List.range S.T.length).map fun c => (S.step p.1 c, S.step p.2 c)
theorem Sys.succ2_mem {S : Sys} {p : Pair} {c : Nat} (hc : c < S.T.length) : (S.step p.1 c, S.step p.2 c) ∈ S.succ2 p :=
  List.mem_map.mpr ⟨c, List.mem_range.mpr hc, rfl⟩
theorem Sys.succ2_of {S : Sys} {p q : Pair} (h : q ∈ S.succ2 p) : ∃ c, c < S.T.length ∧ q = (S.step p.1 c, S.step p.2 c) := by
  obtain ⟨c, hc, rfl⟩ := List.mem_map.mp h
  exact ⟨c, List.mem_range.mp hc, rfl⟩
theorem Sys.Ok.rch2 {S : Sys} (ok : S.Ok) {a b : Nat} (ha : a < S.n) (hb : b < S.n) {p : Pair} (h : Rch S.succ2 (a, b) p) : p.1 < S.n ∧ p.2 < S.n := by
  induction h with
  | base => exact ⟨ha, hb⟩
  | next _ hu ih =>
    obtain ⟨c, hc, rfl⟩ := S.succ2_of hu
    exact ⟨ok.step_lt hc ih.1, ok.step_lt hc ih.2⟩

structure Rule where
  init : Nat
  res : List (List Nat)
  nxt : List (List (List Nat))
structure Rule.Ok (S : Sys) (m : Nat) (r : Rule) : Prop where
  m1 : 1 ≤ m
  m8 : m ≤ 8
  init : r.init < m
  resL : r.res.length = S.n
  res : ∀ row ∈ r.res, row.length = m ∧ ∀ y ∈ row, y < S.n
  nxtL : r.nxt.length = S.n
  nxt : ∀ a ∈ r.nxt, a.length = m ∧ ∀ b ∈ a, b.length = S.T.length ∧ ∀ z ∈ b, z < m
def Rule.resAt (r : Rule) (x z : Nat) : Nat := (r.res.getD x []).getD z 0
def Rule.nxtRow (r : Rule) (x z : Nat) : List Nat := (r.nxt.getD x []).getD z []
def Rule.nxtAt (r : Rule) (x z c : Nat) : Nat := (r.nxtRow x z).getD c 0
section
variable {S : Sys} {m : Nat} {r : Rule}
theorem Rule.Ok.resRow (o : r.Ok S m) {x : Nat} (hx : x < S.n) : r.res[x]? = some (r.res.getD x []) ∧ (r.res.getD x []).length = m ∧ ∀ y ∈ r.res.getD x [], y < S.n := by
  obtain ⟨h1, h2⟩ := getD_of (d := []) (l := r.res) (i := x) (by rw [o.resL]; exact hx)
  exact ⟨h1, o.res _ h2⟩
theorem Rule.Ok.resAt (o : r.Ok S m) {x z : Nat} (hx : x < S.n) (hz : z < m) : (r.res.getD x [])[z]? = some (r.resAt x z) ∧ r.resAt x z ∈ r.res.getD x [] ∧ r.resAt x z < S.n := by
  obtain ⟨_, h2, h3⟩ := o.resRow hx
  obtain ⟨h4, h5⟩ := getD_of (d := 0) (l := r.res.getD x []) (i := z) (by omega)
  exact ⟨h4, h5, h3 _ h5⟩
theorem Rule.Ok.nxtA (o : r.Ok S m) {x : Nat} (hx : x < S.n) : r.nxt[x]? = some (r.nxt.getD x []) ∧ (r.nxt.getD x []).length = m ∧ ∀ b ∈ r.nxt.getD x [], b.length = S.T.length ∧ ∀ z ∈ b, z < m := by
  obtain ⟨h1, h2⟩ := getD_of (d := []) (l := r.nxt) (i := x) (by rw [o.nxtL]; exact hx)
  exact ⟨h1, o.nxt _ h2⟩
theorem Rule.Ok.nxtRow (o : r.Ok S m) {x z : Nat} (hx : x < S.n) (hz : z < m) : (r.nxt.getD x [])[z]? = some (r.nxtRow x z) ∧ (r.nxtRow x z).length = S.T.length ∧ ∀ y ∈ r.nxtRow x z, y < m := by
  obtain ⟨_, h2, h3⟩ := o.nxtA hx
  obtain ⟨h4, h5⟩ := getD_of (d := []) (l := r.nxt.getD x []) (i := z) (by omega)
  exact ⟨h4, h3 _ h5⟩
theorem Rule.Ok.nxtAt (o : r.Ok S m) {x z c : Nat} (hx : x < S.n) (hz : z < m) (hc : c < S.T.length) : (r.nxtRow x z)[c]? = some (r.nxtAt x z c) ∧ r.nxtAt x z c < m := by
  obtain ⟨_, h2, h3⟩ := o.nxtRow hx hz
  obtain ⟨h4, h5⟩ := getD_of (d := 0) (l := r.nxtRow x z) (i := c) (by omega)
  exact ⟨h4, h3 _ h5⟩
end

/-- the triples that come next -/
def Rule.one (S : Sys) (r : Rule) (t : Triple) (c : Nat) : Triple := (S.step t.1 c, S.step t.2.1 c, r.nxtAt t.1 t.2.2 c)
def Rule.succ (S : Sys) (r : Rule) (t : Triple) : List Triple := (List.range S.T.length).map fun c => r.one S t c
theorem Rule.succ_mem {S : Sys} {r : Rule} {t : Triple} {c : Nat} (hc : c < S.T.length) : r.one S t c ∈ r.succ S t :=
  List.mem_map.mpr ⟨c, List.mem_range.mpr hc, rfl⟩
theorem Rule.succ_of {S : Sys} {r : Rule} {t u : Triple} (h : u ∈ r.succ S t) : ∃ c, c < S.T.length ∧ u = r.one S t c := by
  obtain ⟨c, hc, rfl⟩ := List.mem_map.mp h
  exact ⟨c, List.mem_range.mp hc, rfl⟩
def Rule.good (r : Rule) (t : Triple) : Prop := r.resAt t.1 t.2.2 = t.2.1
/-- the rule works, after a for b -/
def Rule.Works (S : Sys) (r : Rule) (a b : Nat) : Prop := ∀ t, Rch (r.succ S) (a, b, r.init) t → r.good t
/-- in bounds -/
def InB (S : Sys) (m : Nat) (t : Triple) : Prop := t.1 < S.n ∧ t.2.1 < S.n ∧ t.2.2 < m
theorem Rule.Ok.rch {S : Sys} {m : Nat} {r : Rule} (o : r.Ok S m) (ok : S.Ok) {a b : Nat} (ha : a < S.n) (hb : b < S.n) {t : Triple} (h : Rch (r.succ S) (a, b, r.init) t) : InB S m t := by
  induction h with
  | base => exact ⟨ha, hb, o.init⟩
  | next _ hu ih =>
    obtain ⟨c, hc, rfl⟩ := r.succ_of hu
    exact ⟨ok.step_lt hc ih.1, ok.step_lt hc ih.2.1, (o.nxtAt ih.1 ih.2.2 hc).2⟩
theorem Rule.Ok.few {S : Sys} {m : Nat} {r : Rule} (o : r.Ok S m) (ok : S.Ok) {a b : Nat} (ha : a < S.n) (hb : b < S.n) {l : List Triple} (hn : l.Nodup) (h : ∀ t ∈ l, Rch (r.succ S) (a, b, r.init) t) : l.length ≤ 128 :=
  bound_triples hn fun t ht => by
    have h1 := o.rch ok ha hb (h t ht)
    have h2 := ok.n4
    have h3 := o.m8
    unfold InB at h1
    omega
theorem Sys.Ok.few2 {S : Sys} (ok : S.Ok) {a b : Nat} (ha : a < S.n) (hb : b < S.n) {l : List Pair} (hn : l.Nodup) (h : ∀ t ∈ l, Rch S.succ2 (a, b) t) : l.length ≤ 16 :=
  bound_pairs hn fun t ht => by
    have h1 := ok.rch2 ha hb (h t ht)
    have h2 := ok.n4
    omega
/-- each pair lifts to a triple -/
theorem lift {S : Sys} {r : Rule} {a b : Nat} {p : Pair} (h : Rch S.succ2 (a, b) p) : ∃ z, Rch (r.succ S) (a, b, r.init) (p.1, p.2, z) := by
  induction h with
  | base => exact ⟨_, .base⟩
  | next _ hu ih =>
    obtain ⟨c, hc, rfl⟩ := S.succ2_of hu
    obtain ⟨z, hz⟩ := ih
    exact ⟨_, .next hz (r.succ_mem hc)⟩
/-- a rule that works has as many notes as a state has counterparts -/
theorem least {S : Sys} {m : Nat} {r : Rule} (o : r.Ok S m) (ok : S.Ok) {a b : Nat} (ha : a < S.n) (hb : b < S.n) (wk : r.Works S a b) {x : Nat} {ys : List Nat} (hn : ys.Nodup) (hy : ∀ y ∈ ys, Rch S.succ2 (a, b) (x, y)) : ys.length ≤ m := by
  by_cases h0 : ys = []
  · rw [h0]
    exact Nat.zero_le _
  · obtain ⟨y0, hy0⟩ := List.exists_mem_of_ne_nil ys h0
    have hx : x < S.n := (ok.rch2 ha hb (hy y0 hy0)).1
    have h1 := length_le_of_subset ys (r.res.getD x []) hn fun y hm => by
      obtain ⟨z, hz⟩ := lift (r := r) (hy y hm)
      have hb' := o.rch ok ha hb hz
      have hg : r.resAt x z = y := wk _ hz
      have h3 := (o.resAt (x := x) (z := z) hx hb'.2.2).2.1
      rw [hg] at h3
      exact h3
    rw [(o.resRow hx).2.1] at h1
    exact h1
end Ub
/-! UbText: the text by places. -/
namespace Ub
open PySem PySem.Spec PyProof.Rows L2
def topS (i : Nat) : Stmt := PySem.Challenge.pw_undobystate_k17_whole_any_rule.main.body.getD i (.Pass ⟨0, 0, 0, 0⟩)
abbrev s_is_whole : Stmt := topS 6
abbrev s_is_system : Stmt := topS 7
abbrev s_is_state : Stmt := topS 8
abbrev s_is_command : Stmt := topS 9
abbrev s_states_of : Stmt := topS 10
abbrev s_step : Stmt := topS 11
abbrev s_pairs_from : Stmt := topS 13
abbrev s_counterparts_of : Stmt := topS 14
abbrev s_check_action : Stmt := topS 17
abbrev s_is_index : Stmt := topS 18
abbrev s_is_row : Stmt := topS 19
abbrev s_notes_of : Stmt := topS 20
abbrev s_least_notes : Stmt := topS 21
abbrev s_are_nexts : Stmt := topS 22
abbrev s_is_rule : Stmt := topS 23
abbrev s_works : Stmt := topS 24
abbrev s_accepts_rule : Stmt := topS 25
abbrev s_Lstream : Stmt := topS 27
abbrev s_Lnext : Stmt := topS 28
abbrev s_Lis_integer : Stmt := topS 29
abbrev s_Lequal : Stmt := topS 30
abbrev s_Lsystem : Stmt := topS 31
abbrev s_Lpairs : Stmt := topS 32
abbrev s_Lcounterparts : Stmt := topS 33
abbrev s_Lworks : Stmt := topS 34
abbrev s_Ltold_rule : Stmt := topS 35
abbrev s_Ldrawn_rule : Stmt := topS 36
abbrev s_Lwith : Stmt := topS 37
abbrev s_Lbent : Stmt := topS 38
abbrev s_law : Stmt := topS 39
abbrev FnP (K : PySem.W.Frag) (x : Str) (st : Stmt) (f : Addr) (fd : FuncData) : Prop := FunD K x x (defArgs st) (defBody st) (defScope st) [] [] f fd
end Ub
set_option maxHeartbeats 4000000
/-! UbRules: rules that the hand layer lacks: enumerate of a tuple, a display with one tuple key, sorted of a dict with pairs as keys, tuple * 0 and * 1, tuple.index of an int. -/
namespace Ub
open PySem PySem.Spec PyProof.Rows L2

/-! ### enumerate(tuple) -/
open AutoSeq1 (wpAny_loadPart') in
theorem meets_enum_newT (l : Addr) (items : Array Value) (n : Nat) (dct : Option Addr) (sl : Array (Option Value)) :
    Meets (Builtin.«enumerate.__new__» ⟨[.type "enumerate", .ref l], []⟩) (fun _ R s => s.heap.get? l = some { cls := .type "tuple", dict := dct, data := .seq items n, slots := sl } ∧
      R (.ok (.ret (.ref (s.heap.push { cls := .type "tuple_iterator", data := .fields #[.ref l, .int 0 0] }).objs.size)))
        { s with heap := (s.heap.push { cls := .type "tuple_iterator", data := .fields #[.ref l, .int 0 0] }).push { cls := .type "enumerate", data := .fields #[.none, .bool false, .ref s.heap.objs.size, rawInt 0, .none, .none] } }) :=
  .of_wp fun prog w A R s h => by
    obtain ⟨hp, g, d, tk, os⟩ := s; obtain ⟨hl, h⟩ := h
    have hsub := sub_enumerate
    have hL : Heap.IsTuple (Shared.heap ⟨hp, g, d, tk, os⟩) l items := ⟨_, hl, rfl, n, rfl⟩
    wp_walk using wpAny_loadPart' hl
    refine wpAny_stack_any fun st => wpAny_pure ?_
    split
    · rename_i c _ _ _ _ _
      cases (c == Value.type "enumerate")
      · wp_walk using wpAny_loadPart' hl, wpAny_pyIter_tuple hL
        exact ⟨_, rfl, h⟩
      · wp_walk using wpAny_loadPart' hl, wpAny_pyIter_tuple hL
        exact ⟨_, rfl, h⟩
    · wp_walk using wpAny_loadPart' hl, wpAny_pyIter_tuple hL
      exact ⟨_, rfl, h⟩
section
variable {prog : Program} {w : World} {A : Around} {E : Value → Shared → Prop} {s : Shared}
theorem call_enumT {l : Addr} {items : Array Value} {Q : Value → Shared → Prop} (hL : s.heap.IsTuple l items)
    (h : ∀ h', IsEnum h' (s.heap.objs.size + 1) s.heap.objs.size 0 .none → h'.IsTupleIter s.heap.objs.size l 0 → h'.objs.size = s.heap.objs.size + 2 →
      (∀ b o, s.heap.get? b = some o → h'.get? b = some o) → Q (.ref (s.heap.objs.size + 1)) { s with heap := h' }) :
    wpAny (model prog w) A (call (.type "enumerate") [.ref l]) Q E s := by
  obtain ⟨⟨c, dct, dt, sl⟩, hl, hc, n, hd⟩ := hL
  replace hc : c = .type "tuple" := hc
  replace hd : dt = .seq items n := hd
  subst hc hd
  refine callType_new F.called_enumerate (by decide) (F.typeCall_enumerate_1 _) (F.newCall_enumerate_1 _) (fun obj => F.args_object_init_2 obj _) F.entry_enumerate_new
    (meets_enum_newT l items n dct sl) ⟨hl, ?_⟩
  have hz : (s.heap.push { cls := .type "tuple_iterator", data := .fields #[.ref l, .int 0 0] }).objs.size = s.heap.objs.size + 1 := Heap.size_push ..
  show _ ∧ _
  rw [hz]
  have he : IsEnum ((s.heap.push { cls := .type "tuple_iterator", data := .fields #[.ref l, .int 0 0] }).push
      { cls := .type "enumerate", data := .fields #[.none, .bool false, .ref s.heap.objs.size, rawInt 0, .none, .none] }) (s.heap.objs.size + 1) s.heap.objs.size 0 .none := by
    have := Heap.get?_push_size (s.heap.push { cls := .type "tuple_iterator", data := .fields #[.ref l, .int 0 0] })
      (o := { cls := .type "enumerate", data := .fields #[.none, .bool false, .ref s.heap.objs.size, rawInt 0, .none, .none] }) rfl
    rw [hz] at this; exact this
  refine ⟨⟨_, he, rfl⟩, h _ he ⟨_, Heap.get?_push_of_some _ (Heap.get?_push_size _ rfl), rfl, rfl⟩ (by rw [Heap.size_push, hz]) fun b o y => Heap.get?_push_of_some _ (Heap.get?_push_of_some _ y)⟩
end
/-- the tuple at a as it stands at each turn, each item in a new pair -/
def IteT (K : PySem.W.Frag) (a : Addr) : It :=
  ⟨fun i H => ∃ (xs : List V) (x : V), SqT K H a xs ∧ xs[i]? = some x, fun i H v H' => ∃ T x, v = .ref T ∧ H T = none ∧ H' = upd H T (.tup [.int (i : Nat), x]) ∧ ∀ xs, SqT K H a xs → xs[i]? = some x, fun i H => ∃ xs : List V, SqT K H a xs ∧ xs.length ≤ i⟩
theorem turn_enumT {P : Program} {w : World} {K : PySem.W.Frag} {elts : List Expr} {kk : Nat} {tpos : Pos} (a e it : Addr) :
    Turn P w K (.Tuple elts kk tpos) (IteT K a) [e, it] e (fun i h => (∃ old, IsEnum h e it ((i : Nat) : Int) old) ∧ h.IsTupleIter it a i ∧ e ≠ it) where
  mem := by simp
  obj := fun i h st b hb => by
    obtain ⟨⟨old, he⟩, ⟨o, ho, hc, hd⟩, _⟩ := st
    have e' : b = e ∨ b = it := by simpa using hb
    rcases e' with z | z
    · rw [z]; exact ⟨_, he, fun v q => nomatch q⟩
    · rw [z]; exact ⟨o, ho, fun v q => by rw [hd] at q; cases q⟩
  keep := fun i h h' st k => let ⟨⟨old, he⟩, hi, hne⟩ := st; ⟨⟨old, k e (by simp) _ he⟩, hi.at fun o q => k it (by simp) o q, hne⟩
  item := by
    intro X hP hw hK hc i pins s σ H E I hf st hg
    subst hP hw hK
    obtain ⟨⟨old, he⟩, hit, hne⟩ := st
    obtain ⟨xs, x, hq, hx⟩ := hg
    obtain ⟨its, rv, p, hz⟩ := I.tuple hq
    obtain ⟨u, hu, ru⟩ := rv.get hx
    have hT0 : s.heap.IsTuple a its.toArray := p
    have hel : e < s.heap.objs.size := Heap.lt_size he
    have hil : it < s.heap.objs.size := by obtain ⟨_, q, _⟩ := hit; exact Heap.lt_size q
    have nai : a ≠ it := by
      rintro rfl
      obtain ⟨o1, h1, c1, _⟩ := id hit
      obtain ⟨o2, h2, c2, _⟩ := id hT0
      rw [h1] at h2
      cases h2
      rw [c1] at c2
      exact absurd (Value.type.inj c2) (by decide)
    have nae : a ≠ e := by
      rintro rfl
      have h1 := he
      obtain ⟨o2, h2, c2, _⟩ := id hT0
      have h3 : s.heap.get? a = some _ := h1
      rw [h2] at h3
      cases h3
      exact absurd (Value.type.inj c2) (by decide)
    have hi : i < its.toArray.size := by
      have h1 := (List.getElem?_eq_some_iff.mp hu).1
      simpa using h1
    refine wpAny_pyNext_enum_itemD (Draws.tuple (prog := X.prog) (w := X.w) (A := X.A.in1) (I.ok.hd hc) it a nai its.toArray) he ⟨hit, hT0⟩ hi hne (by simp [hne, Ne.symm nae]) fun x' h' tk hx' ho st' hT hsz hk => ?_
    obtain ⟨hit', _⟩ := st'
    have ex : x' = u := by
      have h1 : its[i]? = some x' := by simpa using hx'
      rw [hu] at h1
      exact (Option.some.inj h1).symm
    subst ex
    refine ⟨_, rfl, wpAny_letOwnedTupleGo_enum (s := { s with heap := h', toks := tk + 1 }) ho fun h'' he' sb => ?_⟩
    have hT2 : h''.get? s.heap.objs.size = some { cls := .type "tuple", data := .seq #[.int i tk, x'] } := (sb.2 _ (Nat.ne_of_gt hel)).trans hT
    have new : ObjOk X.prog X.w (upd H s.heap.objs.size (.tup [.int (i : Nat), x])) h'' s.heap.objs.size (.tup [.int (i : Nat), x]) :=
      ⟨by show 2 ≤ sizeLine; decide, [.int i tk, x'], .cons ⟨_, rfl⟩ (.cons ru .nil), ⟨_, hT2, rfl, _, rfl⟩⟩
    have I1 : Inv X pins σ (upd H s.heap.objs.size (.tup [.int (i : Nat), x])) { s with heap := h'', toks := tk + 1 } :=
      I.turnedNew (ch := [e, it]) (fun b ob hb q => (sb.2 b (fun z => hb (by simp [z]))).trans (hk b ob (fun z => hb (by simp [z])) (fun z => hb (by simp [z])) q)) hf (Nat.le_refl _) new
    refine ⟨.ref s.heap.objs.size, _, I1, rfl, ⟨_, x, rfl, I.hok.fresh (Nat.le_refl _), rfl, fun ys hy => by rw [I.tuple_inj hy hq]; exact hx⟩, ⟨⟨x', ?_⟩, hit'.at fun o q => (sb.2 it (Ne.symm hne)).trans q, hne⟩, fun b hb => ?_⟩
    · have e1 : ((i + 1 : Nat) : Int) = (i : Int) + 1 := by omega
      rw [e1]; exact he'
    · have hb' : b < s.heap.objs.size := by
        have e' : b = e ∨ b = it := by simpa using hb
        rcases e' with z | z
        · rw [z]; exact hel
        · rw [z]; exact hil
      rw [upd_ne (Nat.ne_of_lt hb')]
      exact (hf b hb).1
  done := by
    intro X hP hw hK hc i pins s σ H E I hf st hg
    subst hP hw hK
    obtain ⟨⟨old, he⟩, hit, hne⟩ := st
    obtain ⟨xs, hq, hx⟩ := hg
    obtain ⟨its, rv, p, hz⟩ := I.tuple hq
    obtain ⟨f0, f1, f2, f3, f4, f5⟩ := hf it (by simp)
    have hl := rv.length
    have hT0 : s.heap.IsTuple a its.toArray := p
    have hT : s.TypeIs (.ref e) "enumerate" := ⟨_, he, rfl⟩
    have hno : its.toArray[i]? = none := by simp; omega
    unfold pyNext
    refine wpAny_bind (wpAny_attempt (wpAny_callSpecial?_slot (name := Str.ofString "__next__") hT F.slot_enumerate_next
      (wpAny_call_entry F.slot_enumerate_next hT F.entry_enumerate_next ?_ (F.args_enumerate_next_1 _))))
    show wpAny _ _ (field (.ref e) 2 >>= _) _ _ _
    refine wpAny_bind (wpAny_field he rfl (x := .ref it) rfl ?_)
    refine wpAny_bind (wpAny_nextOf_tuple_end (I.ok.hd hc) hit hT0 hno fun h' x he' hx' => ?_)
    obtain ⟨o, ho, hc'⟩ := hx'
    refine wpAny_bind (wpAny_isInstance (T := "StopIteration") (b := true) ⟨o, ho, hc'⟩ isSubtype_stop ?_)
    exact wpAny_pure ⟨rfl, I.turned (t' := s.toks) (fun b o hb q => he' b o hb q) f0 f1 f3 f4 f5⟩
  self := fun A i s Q E st h => let ⟨⟨_, he⟩, _⟩ := st; wpAny_pyIter_enum he h
def iEnumT (K : PySem.W.Frag) (ta : TA) : TI := fun σ H R => ta σ H fun vs H1 => ∃ a xs, vs = [.ref a] ∧ SqT K H1 a xs ∧ R (IteT K a) H1
theorem pi_enumT {X : Cx} {e : Expr} {ta : TA} {p pos tpos : Pos} {elts : List Expr} {kk : Nat} (hg : Gl X "enumerate") (hm : X.mg "enumerate" = none) (ha : PA X [e] ta) (hs : starEach [e] X.env = [(false, eval e X.env)] := by rfl) :
    PI X (.Tuple elts kk tpos) (.Call (.Name "enumerate" p) [e] [] pos) (iEnumT X.K ta) := by
  refine ⟨fun pins s σ H R I h => ?_⟩
  refine Call_ (ld_blt I hg hm boot_enumerate (PyProof.Rows.callWith_type1 (thn (ha.run pos pins s σ H _ I h) fun us s1 ⟨vs, H1, I1, r1, q1⟩ => ?_) hs rfl))
  obtain ⟨a, xs, ex, hq, q⟩ := q1
  subst ex
  cases r1 with
  | cons r rr =>
    cases rr
    cases r
    obtain ⟨its, rv, p', hz⟩ := I1.tuple hq
    refine call_enumT (show s1.heap.IsTuple a its.toArray from p') fun h' he hit hsz hk => wpAny_pyIter_enum he ?_
    have I2 : Inv X pins σ H1 { s1 with heap := h' } := I1.kept (t' := s1.toks) hk
    refine ⟨s1.heap.objs.size + 1, [s1.heap.objs.size + 1, s1.heap.objs.size], _, _, H1, rfl, I2, turn_enumT a (s1.heap.objs.size + 1) s1.heap.objs.size, ⟨⟨.none, he⟩, hit, Nat.succ_ne_self _⟩, fun b hb => ?_, q⟩
    have e' : b = s1.heap.objs.size + 1 ∨ b = s1.heap.objs.size := by simpa using hb
    have hle : s1.heap.objs.size ≤ b := by
      rcases e' with z | z
      · rw [z]; exact Nat.le_add_right _ _
      · rw [z]; exact Nat.le_refl _
    exact I1.fpOk hle (I1.hok.fresh hle)

/-! ### tuple.index of an int -/
theorem ints_vals : ∀ {ns : List Int} {us : List Value}, Vals (ns.map V.int) us → IntsAre us ns
  | [], _, h => by
    cases h
    exact .nil
  | n :: ns, _, h => by
    cases h with
    | cons r t =>
      obtain ⟨tk, rfl⟩ := r
      exact .cons _ _ (ints_vals t)
def rIdxT (K : PySem.W.Frag) : V → List V → Hp → VK → Prop := fun x xs H Q => ∃ p, ∃ ns : List Int, ∃ k, x = V.ref p ∧ xs = [V.int k] ∧ SqT K H p (ns.map V.int) ∧ k ∈ ns ∧ Q (.int (ns.idxOf k : Nat)) H
theorem mt_idxT {X : Cx} : MtR X "tuple.index" (rIdxT X.K) := by
  intro pins s σ H x xs v us Q I rx rxs h
  obtain ⟨p, ns, k, rfl, rfl, hT, hk, q⟩ := h
  obtain rfl : v = Value.ref p := rx
  obtain ⟨u, rfl, ru⟩ := rxs.one
  obtain ⟨t, rfl⟩ := ru
  obtain ⟨its, r, p1, _⟩ := I.tuple hT
  exact SeqAt.tuple_index_ints (show s.heap.IsTuple p its.toArray from p1) (ints_vals r) hk ⟨.int _, H, I.tok _, ⟨_, rfl⟩, q⟩

/-! ### sorted(d), the keys pairs of ints -/
/-- the keys of d are the pairs ks -/
def pairK (p : Nat × Nat) : List L2.Key := [.inl (p.1 : Int), .inl (p.2 : Int)]
def rSortedD : List V → Hp → VK → Prop := fun vs H Q => ∃ (a : Addr) (kvs : List (List L2.Key × V)) (ks : List (Nat × Nat)), vs = [V.ref a] ∧ H a = some (.dT kvs) ∧ kvs.map (·.1) = ks.map pairK ∧
  ∀ (p : Addr) (ys : List V) (ks' : List (Nat × Nat)), ks'.Perm ks → Paired (fun y (k : Nat × Nat) => ∃ t, y = V.ref t ∧ H t = some (.tup [.int k.1, .int k.2])) ys ks' → H p = none → Q (.ref p) (upd H p (.lst ys))
theorem perm_pull {α β : Type} {F : α → β → Prop} : ∀ {l' l : List α} {m : List β}, l'.Perm l → Paired F l m → ∃ m' : List β, m'.Perm m ∧ Paired F l' m' := by
  intro l' l m h
  induction h generalizing m with
  | nil => intro r; cases r; exact ⟨[], .nil, .nil⟩
  | cons x _ ih =>
    intro r
    cases r with
    | cons r t =>
      obtain ⟨m', h1, h2⟩ := ih t
      exact ⟨_ :: m', h1.cons _, .cons r h2⟩
  | swap x y l =>
    intro r
    cases r with
    | cons r t =>
      cases t with
      | cons r2 t2 => exact ⟨_, List.Perm.swap _ _ _, .cons r2 (.cons r t2)⟩
  | trans _ _ ih1 ih2 =>
    intro r
    obtain ⟨m1, h1, h2⟩ := ih2 r
    obtain ⟨m2, h3, h4⟩ := ih1 h2
    exact ⟨m2, h3.trans h1, h4⟩
theorem paired_map_l {α β γ : Type} {F : α → β → Prop} {G : γ → β → Prop} {g : α → γ} (h : ∀ a b, F a b → G (g a) b) : ∀ {l : List α} {m : List β}, Paired F l m → Paired G (l.map g) m
  | _, _, .nil => .nil
  | _, _, .cons r t => .cons (h _ _ r) (paired_map_l h t)
theorem cr_sortedD {X : Cx} (hc : X.calm = true) : CallR X (.builtin "sorted") rSortedD := by
  intro pins s σ H xs us Q I r q
  obtain ⟨a, kvs, ks, ex, hd, hks, q⟩ := q
  subst ex
  obtain ⟨u, eu, rx⟩ := vals1 r
  subst eu
  cases rx
  obtain ⟨z, hs, xs0, pr, o, es, ep, ho, hx, hdt, he, hn⟩ := (show ObjOk X.prog X.w H s.heap a (.dT kvs) from I.hok a _ hd)
  have l1 : es.size = xs0.length := size_of_entries he
  have l2 : kvs.length = xs0.length := Paired.length pr
  refine Calls.call_function_entry PyProof.Rows.kind_sorted PyProof.Rows.plain_sorted PyProof.Rows.entry_sorted (PyProof.Rows.args_sorted1 _) ?_
  unfold Builtin.«sorted»
  refine wpAny_bind (m := checkCount "sorted" 1 1 _) (wpAny_pure ?_)
  refine wpAny_bind (PySem.W.kdu_collect (A := X.A.in1) (kdl_raw hs hx hdt) (I.ok.hd hc) ho (by omega) fun h' tk acc hk hacc => ?_)
  have hal : acc.toList.length = xs0.length := by rw [Array.length_toList, hacc.1]; exact l1
  have ea : acc.toList = xs0.map fun x => Value.ref x.2.1 := by
    apply List.ext_getElem?
    intro j
    rw [List.getElem?_map]
    cases hj : acc.toList[j]? with
    | none =>
      have h1 := List.getElem?_eq_none_iff.mp hj
      rw [List.getElem?_eq_none (by omega)]
      all_goals rfl
    | some v =>
      obtain ⟨en, hen, hv⟩ := hacc.2 j v (by rw [← Array.getElem?_toList]; exact hj)
      have qe := entry_at he j
      rw [hen] at qe
      cases hb : xs0[j]? with
      | none =>
        rw [hb] at qe
        exact nomatch (show some en = none from qe)
      | some b =>
        rw [hb] at qe
        have e2 : en = entryOfKey (tupleKind (mixKind X.prog X.w)) b := Option.some.inj qe
        rw [hv, e2]
        all_goals rfl
  have pk : Paired (fun (v : Value) (k : Nat × Nat) => ∃ t, v = Value.ref t ∧ H t = some (.tup [.int k.1, .int k.2])) acc.toList ks := by
    rw [ea]
    clear ea hal hacc he l1 l2 q hd z
    have go : ∀ {l : List (List L2.Key × V)} {m : List (List L2.Key × Addr × Value)} {n : List (Nat × Nat)}, Paired (fun (p : List L2.Key × V) (q : List L2.Key × Addr × Value) => p.1 = q.1 ∧ H q.2.1 = some (.tup (p.1.map kV)) ∧ RelV p.2 q.2.2) l m →
        l.map (·.1) = n.map pairK → Paired (fun (v : Value) (k : Nat × Nat) => ∃ t, v = Value.ref t ∧ H t = some (.tup [.int k.1, .int k.2])) (m.map fun x => Value.ref x.2.1) n := by
      intro l m n r
      induction r generalizing n with
      | nil =>
        intro e
        cases n with
        | nil => exact .nil
        | cons a b => cases e
      | @cons p q ps qs h t ih =>
        intro e
        cases n with
        | nil => cases e
        | cons k n =>
          rw [List.map_cons, List.map_cons] at e
          injection e with e1 e2
          refine .cons ⟨q.2.1, rfl, ?_⟩ (ih e2)
          have h2 := h.2.1
          rw [e1] at h2
          exact h2
    exact go pr hks
  have I1 : Inv X pins σ H { s with heap := h', toks := tk } := I.kept hk
  refine wpAny_bind (wpAny_newList ?_ (by rw [hal]; omega))
  have hoL : (h'.push (seqObj "list" acc.toList.toArray 0)).get? h'.objs.size = some (seqObj "list" acc.toList.toArray 0) := Heap.get?_push_size _ rfl
  show wpAny _ _ _ _ _ { s with heap := h'.push (seqObj "list" acc.toList.toArray 0), toks := tk }
  refine wpAny_bind (wpAny_holding (wpAny_call_entry PyProof.Rows.slot_list_sort ⟨_, hoL, rfl⟩ PyProof.Rows.entry_list_sort
    (Srt.list_sort_any (s := { s with heap := h'.push (seqObj "list" acc.toList.toArray 0), toks := tk }) hoL (by rw [hal]; omega) (fun h2 => ?_) fun out hp => ⟨_, rfl, ?_⟩)
    (PyProof.Rows.args_list_sort _)))
  · refine Srt.pairs_sortable (s := { s with heap := h'.push (seqObj "list" acc.toList.toArray 0), toks := tk }) (by omega) (fun v hv => ?_) fun o' e c => ?_
    · obtain ⟨j, hj⟩ := List.mem_iff_getElem?.mp hv
      have go : ∀ {l : List Value} {n : List (Nat × Nat)} {j : Nat}, Paired (fun (v : Value) (k : Nat × Nat) => ∃ t, v = Value.ref t ∧ H t = some (.tup [.int k.1, .int k.2])) l n → l[j]? = some v → ∃ k : Nat × Nat, ∃ t, v = Value.ref t ∧ H t = some (.tup [.int k.1, .int k.2]) := by
        intro l n j r
        induction r generalizing j with
        | nil => intro e; simp at e
        | cons r t ih =>
          intro e
          cases j with
          | zero =>
            have e' := Option.some.inj e
            subst e'
            exact ⟨_, r⟩
          | succ j => exact ih (by simpa using e)
      obtain ⟨k, t, rfl, ht⟩ := go pk hj
      obtain ⟨_, its2, r2, o2, h3, h4, n, h5⟩ := I1.hok _ _ ht
      obtain ⟨u1, u2, rfl, ri, rj⟩ := vals2 r2
      obtain ⟨t1, rfl⟩ := ri
      obtain ⟨t2, rfl⟩ := rj
      exact ⟨_, _, t, o2, t1, t2, n, rfl, Heap.get?_push_of_some _ h3, h4, h5⟩
    · have e' : some o' = some (seqObj "list" acc.toList.toArray 0) := e.symm.trans hoL
      cases e'
      exact absurd (Value.type.inj c) (by decide)
  · obtain ⟨ks', hp', pk'⟩ := perm_pull hp pk
    obtain ⟨e', he'⟩ := PyProof.Rows.sortedHeap_at (vs := acc.toList) (out := out.toArray) hoL
    have hol : out.length = xs0.length := by rw [hp.length_eq, hal]
    have refs : ∀ u ∈ out, ∃ b, u = Value.ref b := fun u hu => by
      have := hp.mem_iff.mp hu
      rw [ea] at this
      obtain ⟨x, _, rfl⟩ := List.mem_map.mp this
      exact ⟨_, rfl⟩
    have hlen : (out.map backV).length ≤ sizeLine := by rw [List.length_map, hol]; omega
    refine wpAny_pure ⟨_, rfl, .ref h'.objs.size, upd H h'.objs.size (.lst (out.map backV)), I1.laid (t' := tk) (fun b u e => ?_) (Nat.le_refl _)
      (show ObjOk X.prog X.w _ _ _ (.lst (out.map backV)) from ⟨hlen, out, e', vals_back refs, he'⟩), rfl, q _ _ ks' hp' (paired_map_l (fun v k h => ?_) pk') (I1.hok.fresh (Nat.le_refl _))⟩
    · have hb : b < h'.objs.size := Heap.lt_size e
      rw [PyProof.Rows.sortedHeap_old (Nat.ne_of_lt hb) (by rw [size_push']; exact Nat.lt_succ_of_lt hb)]
      exact Heap.get?_push_of_some _ e
    · obtain ⟨t, rfl, ht⟩ := h
      exact ⟨t, rfl, ht⟩

/-! ### {(..): v} -/
/-- a display with one pair, its key a tuple -/
def tDispT (tk tv : TE) : TE := fun σ H Q => ∀ p, H p = none → tk σ (upd H p (.dT [])) fun k H1 => tv σ H1 fun v H2 => H2 p = some (.dT []) ∧ ∃ (ks : List L2.Key) (b : Addr), k = .ref b ∧ H2 b = some (.tup (ks.map kV)) ∧ Q (.ref p) (upd H2 p (.dT [(ks, v)]))
theorem pe_dispT {X : Cx} {pos : Pos} {k v : Expr} {tk tv : TE} (hu : X.A.units + 1 < cLine) (hk : PE X k tk) (hv : PE X v tv) : PE X (.Dict [some k] [v] pos) (tDispT tk tv) := by
  refine ⟨fun pins s σ H Q I q => ?_⟩
  have hn := I.hok.fresh (Nat.le_refl s.heap.objs.size)
  have I1 := I.laid (a := s.heap.objs.size) (o := .dT []) (h' := s.heap.push { cls := .type "dict", data := .dict #[] }) (t' := s.toks) (fun _ _ q => Heap.get?_push_of_some _ q) (Nat.le_refl _) (dt_empty s.heap I.big)
  refine wpAny_Dict_any (keys := [some k]) (values := [v]) (by rfl) rfl (fun z => nomatch z) (Nat.le_trans (Nat.le_refl 1) (by decide)) ?_
  refine pairTrees_cons_walk (thn (hk.run pins _ σ _ _ I1 (q _ hn)) fun u s1 ⟨x, H1, I2, rx, q1⟩ => thn (hv.run pins s1 σ H1 _ I2 q1) fun w2 s2 ⟨y, H2, I3, ry, e, ks, b, ex, eb, q2⟩ => pairTrees_nil_walk ?_)
  subst ex
  obtain rfl : u = Value.ref b := rx
  obtain ⟨z, hd, xs, rel, dd⟩ := dt_of I3.hok e
  have e0 : xs = [] := by cases rel; rfl
  subst e0
  unfold storeAll
  rw [List.forIn_cons]
  refine wpAny_bind (wpAny_bind (wpAny_dictSet_heap (knd := tupleKind (mixKind X.prog X.w)) (hsz := Nat.zero_le _) (show (tupleKind (mixKind X.prog X.w)).room X.A from Nat.lt_of_le_of_lt (Nat.le_succ _) hu) (key_of I3.hok eb) dd fun h' dd' hs => wpAny_pure ?_))
  dsimp only
  rw [List.forIn_nil]
  refine wpAny_pure ?_
  obtain ⟨qq, es, ep, hq, h2, h3, h4, _, h5⟩ := dd'
  refine ⟨.ref s.heap.objs.size, _, d_write I3 (by rw [e]; exact True.intro) hs ⟨qq, hq⟩ (ob := .dT [(ks, y)]) ⟨by show 1 ≤ sizeLine; decide, hd, _, ((show KT H2 [] [] from .nil).put ks eb ry).keeps fun c ys ec => ?_, qq, es, ep, hq, h2, h3, h4, h5⟩, rfl, q2⟩
  rw [upd_ne (ne_of ec e (fun z => nomatch z))]
  exact ec

/-! ### tuple * int -/
open AutoSeq1 (wpAny_loadPart') in
theorem tuple_mul1 (l : Addr) (items : Array Value) (n : Nat) (dd : Option Addr) (sl : Array (Option Value)) (u : Tok) :
    Meets (Builtin.«tuple.__mul__» ⟨[.ref l, .int 1 u], []⟩) (fun _ R s => s.heap.get? l = some { cls := .type "tuple", dict := dd, data := .seq items n, slots := sl } ∧
      R (.ok (.ret (Value.ref l))) s) :=
  .of_wp fun prog w A R s h => by
    obtain ⟨hp, g, d, tk, os⟩ := s
    obtain ⟨hl, h⟩ := h
    have f1 := AutoSeq1.idx_int
    have c1 : (items.isEmpty || (1 : Int) == 1) = true := by simp
    wp_walk using wpAny_loadPart' hl
    repeat (first
      | (refine wpAny_ite_false (decide_eq_false (by decide)) ?_; wp_walk using wpAny_loadPart' hl)
      | (refine wpAny_ite_true (decide_eq_true c1) ?_; wp_walk using wpAny_loadPart' hl))
    exact ⟨_, rfl, h⟩
open AutoSeq1 (wpAny_loadPart') in
theorem tuple_mul0 (l : Addr) (items : Array Value) (n : Nat) (dd : Option Addr) (sl : Array (Option Value)) (u : Tok) (c1 : (items.isEmpty || (0 : Int) == 1) = false) :
    Meets (Builtin.«tuple.__mul__» ⟨[.ref l, .int 0 u], []⟩) (fun _ R s => s.heap.get? l = some { cls := .type "tuple", dict := dd, data := .seq items n, slots := sl } ∧
      R (.ok (.ret (Value.ref s.heap.objs.size))) { s with heap := s.heap.push { cls := Value.type "tuple", data := Data.seq #[] }, toks := s.toks }) :=
  .of_wp fun prog w A R s h => by
    obtain ⟨hp, g, d, tk, os⟩ := s
    obtain ⟨hl, h⟩ := h
    have f1 := AutoSeq1.idx_int
    have c2 : (decide ((0 : Int) ≤ 0) || items.isEmpty) = true := by simp
    wp_walk using wpAny_loadPart' hl
    repeat (first
      | (refine wpAny_ite_false (decide_eq_false (by decide)) ?_; wp_walk using wpAny_loadPart' hl)
      | (refine wpAny_ite_false (decide_eq_false (by rw [c1]; exact Bool.false_ne_true)) ?_; wp_walk using wpAny_loadPart' hl)
      | (refine wpAny_ite_true (decide_eq_true c2) ?_; wp_walk using wpAny_loadPart' hl))
    exact ⟨_, rfl, h⟩
/-- t * k, 0 ≤ k, t not empty -/
def rRepA (K : PySem.W.Frag) : R2 := fun x y H Q => ∃ l k xs, x = .ref l ∧ y = .int k ∧ SqT K H l xs ∧ xs ≠ [] ∧ 0 ≤ k ∧ k ≤ 1000 ∧ xs.length ≤ 1000 ∧
  (k = 1 → Q (.ref l) H) ∧ (k ≠ 1 → ∀ p, H p = none → Q (.ref p) (upd H p (.tup (List.replicate k.toNat xs).flatten)))
theorem op_repA {X : Cx} : OpR X (binaryOp .Mult) (rRepA X.K) := by
  intro pins s σ H x y v u Q I rx ry h
  obtain ⟨l, k, xs, rfl, rfl, hT, hne, h1, h2, hz, q1, q2⟩ := h
  by_cases hk : 2 ≤ k
  · exact op_repT pins s σ H _ _ v u Q I rx ry ⟨l, k, xs, rfl, rfl, hT, hne, hk, h2, hz, q2 (by omega)⟩
  · cases rx
    obtain ⟨t, rfl⟩ := ry
    obtain ⟨its, r, ⟨⟨cls, dd, data, sl⟩, ho, hc, n, hd⟩, hs⟩ := I.tuple hT
    simp only at hc hd
    subst hc hd
    have hle : its.length = xs.length := r.length.symm
    have hi : its.toArray.isEmpty = false := by
      cases its with
      | nil => exact absurd (List.eq_nil_of_length_eq_zero hle.symm) hne
      | cons a b => rfl
    have hk' : k = 0 ∨ k = 1 := by omega
    rcases hk' with rfl | rfl
    · refine wpAny_binaryOp_repeat_ref (T := "tuple") (U := "int") (by decide) ⟨_, ho, rfl⟩ (fun s' => typeIs_int s' 0 t) noFill_tuple_mul F.fills_int_mul F.slot_int_rmul repeat_tuple F.slot_int_index.lookup
        (call_meets F.slot_int_rmul (typeIs_int s 0 t) F.entry_int_rmul (F.args_int_rmul_2 _ _) (int_rmul_tuple 0 t l its.toArray n dd sl)
          ⟨ho, rfl, ⟨_, ho, rfl⟩, call_meets F.slot_tuple_mul ⟨_, ho, rfl⟩ F.entry_tuple_mul (F.args_tuple_mul_2 _ _) (tuple_mul0 l its.toArray n dd sl t (by rw [hi]; rfl)) ⟨ho, ?_⟩⟩)
      refine ⟨.ref s.heap.objs.size, _, I.laid (t' := s.toks) (o := .tup (List.replicate (0 : Int).toNat xs).flatten) (fun b ob q => Heap.get?_push_of_some _ q) (Nat.le_refl _) ?_, rfl, q2 (by decide) _ (I.hok.fresh (Nat.le_refl _))⟩
      exact ⟨Nat.zero_le _, [], .nil, IsTup.new _ _⟩
    · refine wpAny_binaryOp_repeat_ref (T := "tuple") (U := "int") (by decide) ⟨_, ho, rfl⟩ (fun s' => typeIs_int s' 1 t) noFill_tuple_mul F.fills_int_mul F.slot_int_rmul repeat_tuple F.slot_int_index.lookup
        (call_meets F.slot_int_rmul (typeIs_int s 1 t) F.entry_int_rmul (F.args_int_rmul_2 _ _) (int_rmul_tuple 1 t l its.toArray n dd sl)
          ⟨ho, rfl, ⟨_, ho, rfl⟩, call_meets F.slot_tuple_mul ⟨_, ho, rfl⟩ F.entry_tuple_mul (F.args_tuple_mul_2 _ _) (tuple_mul1 l its.toArray n dd sl t) ⟨ho, ?_⟩⟩)
      exact ⟨.ref l, H, I, rfl, q1 rfl⟩

/-! ### tuple(list), the new tuple known as an object -/
def rTupF (K : PySem.W.Frag) : List V → Hp → VK → Prop := fun xs H Q => ∃ p ys, xs = [.ref p] ∧ SqL K H p ys ∧ ∀ (l : Addr) (o : Obj), H l = none → o.dict = none → o.cls = .type "tuple" → Q (.ref l) (upd H l (.frz o (.tup ys)))
theorem call_tupF {X : Cx} : CallR X (.type "tuple") (rTupF X.K) := by
  intro pins s σ H xs us Q I r h
  obtain ⟨p, ys, rfl, hq, q⟩ := h
  obtain ⟨u, rfl, rx⟩ := vals1 r
  cases rx
  obtain ⟨its, r', pl, hz⟩ := I.list hq
  have hlen := r'.length
  refine call_tuple_list pl.isList (fun h' kp => ?_) (by simp only [List.size_toArray] <;> omega)
  have I1 : Inv X pins σ H { s with heap := h' } := I.kept (t' := s.toks) kp
  have I2 : Inv X pins σ (upd H h'.objs.size (.frz { cls := .type "tuple", data := .seq its.toArray } (.tup ys))) { s with heap := h'.push { cls := .type "tuple", data := .seq its.toArray } } :=
    I1.laid (t' := s.toks) (fun b o e => Heap.get?_push_of_some _ e) (Nat.le_refl _) (show ObjOk X.prog X.w _ _ _ (.frz _ (.tup ys)) from ⟨Heap.get?_push_size _ rfl, hz, its, r', IsTup.new _ _⟩)
  exact ⟨.ref h'.objs.size, _, I2, rfl, q _ _ (I1.hok.fresh (Nat.le_refl _)) rfl rfl⟩
/-- a tuple known as an object -/
def tyF (x : V) (H : Hp) : Prop := ∃ a o xs, x = .ref a ∧ H a = some (.frz o (.tup xs)) ∧ o.dict = none ∧ o.cls = .type "tuple"
theorem ty_F {X : Cx} : TyOk X "tuple" tyF := by
  intro pins σ H s x v I r ty
  obtain ⟨a, o, xs, rfl, e, hd, hc⟩ := ty
  cases r
  obtain ⟨h1, _⟩ := (show ObjOk X.prog X.w H s.heap a (.frz o (.tup xs)) from I.hok a _ e)
  refine ⟨⟨o, h1, hc⟩, fun b q => ?_⟩
  cases q
  exact ⟨o, h1, hd⟩
end Ub
set_option maxHeartbeats 4000000
/-! UbLay: data that never change, what a value is as data, what an expression evaluates to. -/
namespace Ub
open PySem PySem.Spec PyProof.Rows L2

/-! ### data -/
inductive Dt where
  | non | bl (b : Bool) | int (i : Int) | tup (l : List Dt) | lst
mutual
/-- the value v is the data d -/
inductive R (H : Hp) : V → Dt → Prop where
  | non : R H .non .non
  | bl (b : Bool) : R H (.bl b) (.bl b)
  | int (i : Int) : R H (.int i) (.int i)
  | tup {a : Addr} {xs : List V} {ds : List Dt} : Rd H a (.tup xs) → RA H xs ds → R H (.ref a) (.tup ds)
  | lst {a : Addr} {xs : List V} : H a = some (.lst xs) → R H (.ref a) .lst
inductive RA (H : Hp) : List V → List Dt → Prop where
  | nil : RA H [] []
  | cons {v : V} {vs : List V} {d : Dt} {ds : List Dt} : R H v d → RA H vs ds → RA H (v :: vs) (d :: ds)
end
/-- what never changes is kept -/
structure Kp (H H' : Hp) : Prop where
  tup : ∀ a xs, H a = some (.tup xs) → H' a = some (.tup xs)
  frz : ∀ a o u, H a = some (.frz o u) → H' a = some (.frz o u)
  lst : ∀ a xs, H a = some (.lst xs) → ∃ ys, H' a = some (.lst ys)
theorem Kp.refl (H : Hp) : Kp H H := ⟨fun _ _ h => h, fun _ _ _ h => h, fun _ xs h => ⟨xs, h⟩⟩
theorem Kp.trans {H H1 H2 : Hp} (a : Kp H H1) (b : Kp H1 H2) : Kp H H2 :=
  ⟨fun p xs h => b.tup p xs (a.tup p xs h), fun p o u h => b.frz p o u (a.frz p o u h), fun p xs h => let ⟨ys, h'⟩ := a.lst p xs h; b.lst p ys h'⟩
theorem Kp.same {H H' : Hp} (s : Same H H') : Kp H H' := ⟨fun a xs h => s a _ h, fun a o u h => s a _ h, fun a xs h => ⟨xs, s a _ h⟩⟩
theorem same_new {H : Hp} {p : Addr} {o : HO} (h : H p = none) : Same H (upd H p o) := fun b x e => by
  rw [upd_ne (ne_of_none e h)]
  exact e
theorem same_mut {H H' : Hp} {p : Addr} {o : HO} (s : Same H H') (h : H p = none) : Same H (upd H' p o) := fun b x e => by
  rw [upd_ne (ne_of_none e h)]
  exact s b x e
theorem Kp.list {H : Hp} {p : Addr} {xs ys : List V} (h : H p = some (.lst xs)) : Kp H (upd H p (.lst ys)) := by
  refine ⟨fun a zs e => ?_, fun a o u e => ?_, fun a zs e => ?_⟩
  · rw [upd_ne (ne_of e h (fun z => nomatch z))]
    exact e
  · rw [upd_ne (fun z => by subst z; rw [h] at e; cases e)]
    exact e
  · by_cases z : a = p
    · subst z
      exact ⟨ys, upd_same⟩
    · rw [upd_ne z]
      exact ⟨zs, e⟩
theorem Kp.dict {H : Hp} {p : Addr} {ks ks' : List (List L2.Key × V)} (h : H p = some (.dT ks)) : Kp H (upd H p (.dT ks')) := by
  refine ⟨fun a zs e => ?_, fun a o u e => ?_, fun a zs e => ?_⟩
  · rw [upd_ne (ne_of e h (fun z => nomatch z))]
    exact e
  · rw [upd_ne (fun z => by subst z; rw [h] at e; cases e)]
    exact e
  · rw [upd_ne (ne_of e h (fun z => nomatch z))]
    exact ⟨zs, e⟩
theorem Kp.new {H : Hp} {p : Addr} {o : HO} (h : H p = none) : Kp H (upd H p o) := Kp.same (same_new h)
theorem rd_kp {H H' : Hp} (k : Kp H H') {a : Addr} {xs : List V} (h : Rd H a (.tup xs)) : Rd H' a (.tup xs) := by
  rcases h with h | ⟨o, h⟩
  · exact .inl (k.tup _ _ h)
  · exact .inr ⟨o, k.frz _ _ _ h⟩
mutual
theorem R.kp {H H' : Hp} (k : Kp H H') : ∀ (d : Dt) (v : V), R H v d → R H' v d
  | .non, _, h => by cases h; exact .non
  | .bl b, _, h => by cases h; exact .bl b
  | .int i, _, h => by cases h; exact .int i
  | .lst, _, h => by
    cases h with
    | lst h =>
      obtain ⟨ys, h'⟩ := k.lst _ _ h
      exact .lst h'
  | .tup ds, _, h => by
    cases h with
    | tup h1 h2 => exact .tup (rd_kp k h1) (RA.kp k ds _ h2)
theorem RA.kp {H H' : Hp} (k : Kp H H') : ∀ (ds : List Dt) (vs : List V), RA H vs ds → RA H' vs ds
  | [], _, h => by cases h; exact .nil
  | d :: ds, _, h => by
    cases h with
    | cons h1 h2 => exact .cons (R.kp k d _ h1) (RA.kp k ds _ h2)
end
section
variable {H H' : Hp} {v : V} {d : Dt} {vs : List V} {ds : List Dt}
theorem R.by (k : Kp H H') (h : R H v d) : R H' v d := R.kp k d v h
theorem RA.by (k : Kp H H') (h : RA H vs ds) : RA H' vs ds := RA.kp k ds vs h
theorem RA.length : ∀ {vs : List V} {ds : List Dt}, RA H vs ds → vs.length = ds.length
  | _, _, .nil => rfl
  | _, _, .cons _ t => by rw [List.length_cons, List.length_cons, RA.length t]
theorem RA.get : ∀ {vs : List V} {ds : List Dt} {i : Nat} {d : Dt}, RA H vs ds → ds[i]? = some d → ∃ v, vs[i]? = some v ∧ R H v d
  | _, _, _, _, .nil, e => by simp at e
  | _, _, 0, _, .cons r _, e => by
    have e' := Option.some.inj e
    subst e'
    exact ⟨_, rfl, r⟩
  | _, _, i + 1, _, .cons _ t, e => by
    obtain ⟨v, h1, h2⟩ := RA.get (i := i) t (by simpa using e)
    exact ⟨v, by simpa using h1, h2⟩
theorem RA.got : ∀ {vs : List V} {ds : List Dt} {i : Nat} {v : V}, RA H vs ds → vs[i]? = some v → ∃ d, ds[i]? = some d ∧ R H v d
  | _, _, _, _, .nil, e => by simp at e
  | _, _, 0, _, .cons r _, e => by
    have e' := Option.some.inj e
    subst e'
    exact ⟨_, rfl, r⟩
  | _, _, i + 1, _, .cons _ t, e => by
    obtain ⟨v, h1, h2⟩ := RA.got (i := i) t (by simpa using e)
    exact ⟨v, by simpa using h1, h2⟩
theorem RA.append : ∀ {vs ws : List V} {ds es : List Dt}, RA H vs ds → RA H ws es → RA H (vs ++ ws) (ds ++ es)
  | _, _, _, _, .nil, s => s
  | _, _, _, _, .cons r t, s => .cons r (RA.append t s)
theorem RA.snoc (h : RA H vs ds) (r : R H v d) : RA H (vs ++ [v]) (ds ++ [d]) := h.append (.cons r .nil)
theorem RA.take : ∀ {vs : List V} {ds : List Dt} (n : Nat), RA H vs ds → RA H (vs.take n) (ds.take n)
  | _, _, 0, _ => .nil
  | _, _, _ + 1, .nil => .nil
  | _, _, n + 1, .cons r t => .cons r (RA.take n t)
theorem RA.drop : ∀ {vs : List V} {ds : List Dt} (n : Nat), RA H vs ds → RA H (vs.drop n) (ds.drop n)
  | _, _, 0, r => r
  | _, _, _ + 1, .nil => .nil
  | _, _, n + 1, .cons _ t => RA.drop n t
theorem RA.ints : ∀ {vs : List V} {ns : List Int}, RA H vs (ns.map Dt.int) → vs = ns.map V.int
  | _, [], h => by cases h; rfl
  | _, n :: ns, h => by
    cases h with
    | cons r t =>
      cases r
      rw [RA.ints t] <;> rfl
theorem RA.of_ints : ∀ ns : List Int, RA H (ns.map V.int) (ns.map Dt.int)
  | [] => .nil
  | n :: ns => .cons (.int n) (RA.of_ints ns)
theorem RA.bls : ∀ {vs : List V} {bs : List Bool}, RA H vs (bs.map Dt.bl) → vs = bs.map V.bl
  | _, [], h => by cases h; rfl
  | _, n :: ns, h => by
    cases h with
    | cons r t =>
      cases r
      rw [RA.bls t] <;> rfl
theorem R.int_eq {i : Int} (h : R H v (.int i)) : v = .int i := by cases h; rfl
theorem R.bl_eq {b : Bool} (h : R H v (.bl b)) : v = .bl b := by cases h; rfl
theorem R.tup_at {ds : List Dt} (h : R H v (.tup ds)) : ∃ a xs, v = .ref a ∧ Rd H a (.tup xs) ∧ RA H xs ds := by
  cases h with
  | tup h1 h2 => exact ⟨_, _, rfl, h1, h2⟩
theorem sqT_of {K : PySem.W.Frag} {a : Addr} {xs : List V} (h : Rd H a (.tup xs)) : SqT K H a xs := .inl h
theorem sqL_of {K : PySem.W.Frag} {a : Addr} {xs : List V} (h : H a = some (.lst xs)) : SqL K H a xs := .inl (.inl h)
end
/-- a kind's name -/
def Dt.ty : Dt → String
  | .non => "NoneType" | .bl _ => "bool" | .int _ => "int" | .tup _ => "tuple" | .lst => "list"
theorem R.tyx {K : PySem.W.Frag} {H : Hp} {v : V} {d : Dt} (h : R H v d) : TyX K H v (.type d.ty) := by
  cases h with
  | non => exact .base .non
  | bl b => exact .base (.bl b)
  | int i => exact .base (.int i)
  | tup h _ =>
    rcases h with h | ⟨o, h⟩
    · exact .base (.tup h)
    · exact .fTuple h
  | lst h => exact .base (.lst h)

/-! ### what evaluates to what -/
section
def EvV (te : TE) (σ : L2.St) (H : Hp) (v : V) : Prop := ∀ H1, Same H H1 → ∀ Q : VK, (∀ H2, Same H1 H2 → Q v H2) → te σ H1 Q
def Ev (te : TE) (σ : L2.St) (H : Hp) (d : Dt) : Prop := ∀ H1, Same H H1 → ∀ Q : VK, (∀ v H2, Same H1 H2 → R H2 v d → Q v H2) → te σ H1 Q
def EvT (tt : TT) (σ : L2.St) (H : Hp) (b : Bool) : Prop := ∀ H1, Same H H1 → ∀ Q : Bool → Hp → Prop, (∀ H2, Same H1 H2 → Q b H2) → tt σ H1 Q
def EvA (ta : TA) (σ : L2.St) (H : Hp) (ds : List Dt) : Prop := ∀ H1, Same H H1 → ∀ Q : List V → Hp → Prop, (∀ vs H2, Same H1 H2 → RA H2 vs ds → Q vs H2) → ta σ H1 Q
/-- a new list of these -/
def EvL (te : TE) (σ : L2.St) (H : Hp) (ds : List Dt) : Prop := ∀ H1, Same H H1 → ∀ Q : VK, (∀ p xs H2, Same H1 H2 → H1 p = none → H2 p = some (.lst xs) → RA H2 xs ds → Q (.ref p) H2) → te σ H1 Q
variable {K : PySem.W.Frag} {σ : L2.St} {H H' : Hp} {ta tb te tx tc : TE} {t u : TT} {x y v : V} {d e : Dt} {ds es : List Dt} {a b : Bool} {i j k : Int}
theorem Ev.mono (s : Same H H') (h : Ev te σ H d) : Ev te σ H' d := fun H1 s1 Q q => h H1 (s.trans s1) Q q
theorem EvV.mono (s : Same H H') (h : EvV te σ H v) : EvV te σ H' v := fun H1 s1 Q q => h H1 (s.trans s1) Q q
theorem EvT.mono (s : Same H H') (h : EvT t σ H b) : EvT t σ H' b := fun H1 s1 Q q => h H1 (s.trans s1) Q q
theorem EvL.mono (s : Same H H') (h : EvL te σ H ds) : EvL te σ H' ds := fun H1 s1 Q q => h H1 (s.trans s1) Q q
theorem EvV.toD (h : EvV te σ H v) (r : R H v d) : Ev te σ H d := fun H1 s Q q => h H1 s Q fun H2 s2 => q v H2 s2 (r.by (Kp.same (s.trans s2)))
theorem Ev.vi (h : Ev te σ H (.int i)) : EvV te σ H (.int i) := fun H1 s Q q => h H1 s Q fun v H2 s2 r => by
  rw [r.int_eq]
  exact q H2 s2
theorem Ev.vb (h : Ev te σ H (.bl b)) : EvV te σ H (.bl b) := fun H1 s Q q => h H1 s Q fun v H2 s2 r => by
  rw [r.bl_eq]
  exact q H2 s2
theorem Ev.is (h : Ev te σ H d) (q : d = e) : Ev te σ H e := q ▸ h
theorem EvT.is (h : EvT t σ H a) (q : a = b) : EvT t σ H b := q ▸ h
theorem v_var {n : Nat} (h : σ[n]? = some (some v)) : EvV (tVar n) σ H v := fun H1 _ _ q => ⟨v, h, q H1 (Same.refl H1)⟩
theorem e_var {n : Nat} (h : σ[n]? = some (some v)) (r : R H v d) : Ev (tVar n) σ H d := (v_var h).toD r
theorem v_c : EvV (tC v) σ H v := fun H1 _ _ q => q H1 (Same.refl H1)
theorem e_int : Ev (tC (.int i)) σ H (.int i) := v_c.toD (.int i)
theorem e_bl : Ev (tC (.bl b)) σ H (.bl b) := v_c.toD (.bl b)
theorem e_non : Ev (tC .non) σ H .non := v_c.toD .non
/-- t[i] -/
theorem e_ixT {n : Nat} (ha : Ev ta σ H (.tup ds)) (hb : Ev tb σ H (.int (n : Int))) (hn : ds[n]? = some d) : Ev (tOp (rIxT K) ta tb) σ H d := fun H1 s Q q =>
  ha H1 s _ fun va H2 s2 r2 => hb H2 (s.trans s2) _ fun vb H3 s3 r3 => by
    obtain ⟨p, xs, rfl, h1, h2⟩ := (r2.by (Kp.same s3)).tup_at
    obtain ⟨w, h3, h4⟩ := h2.get hn
    exact ⟨p, xs, n, w, rfl, r3.int_eq, sqT_of h1, atI_nat h3, q w H3 (s2.trans s3) h4⟩
/-- l[i] of a list that stands at p -/
theorem e_ixL {n : Nat} {p : Addr} {xs : List V} (hp : H p = some (.lst xs)) (hr : RA H xs ds) (ha : EvV ta σ H (.ref p)) (hb : Ev tb σ H (.int (n : Int))) (hn : ds[n]? = some d) : Ev (tOp (rIxL K) ta tb) σ H d := fun H1 s Q q =>
  ha H1 s _ fun H2 s2 => hb H2 (s.trans s2) _ fun vb H3 s3 r3 => by
    obtain ⟨w, h3, h4⟩ := hr.get hn
    exact ⟨p, xs, n, w, rfl, r3.int_eq, sqL_of (s3 _ _ (s2 _ _ (s _ _ hp))), atI_nat h3, q w H3 (s2.trans s3) (h4.by (Kp.same ((s.trans s2).trans s3)))⟩
theorem v_ixL {n : Nat} {p : Addr} {xs : List V} (hp : H p = some (.lst xs)) (ha : EvV ta σ H (.ref p)) (hb : Ev tb σ H (.int (n : Int))) (hn : xs[n]? = some v) : EvV (tOp (rIxL K) ta tb) σ H v := fun H1 s Q q =>
  ha H1 s _ fun H2 s2 => hb H2 (s.trans s2) _ fun vb H3 s3 r3 =>
    ⟨p, xs, n, v, rfl, r3.int_eq, sqL_of (s3 _ _ (s2 _ _ (s _ _ hp))), atI_nat hn, q H3 (s2.trans s3)⟩
theorem e_i0 {g : Int → Int → V} {f : Int → Int → Dt} (hg : ∀ H, R H (g i j) (f i j)) (ha : Ev ta σ H (.int i)) (hb : Ev tb σ H (.int j)) : Ev (tOp (rI0 g) ta tb) σ H (f i j) := fun H1 s Q q =>
  ha H1 s _ fun va H2 s2 r2 => hb H2 (s.trans s2) _ fun vb H3 s3 r3 => ⟨i, j, r2.int_eq, r3.int_eq, q _ H3 (s2.trans s3) (hg H3)⟩
theorem e_i {C : Int → Int → Prop} {g : Int → Int → V} {f : Int → Int → Dt} (hg : ∀ H, R H (g i j) (f i j)) (ha : Ev ta σ H (.int i)) (hb : Ev tb σ H (.int j)) (hc : C i j) : Ev (tOp (rI C g) ta tb) σ H (f i j) := fun H1 s Q q =>
  ha H1 s _ fun va H2 s2 r2 => hb H2 (s.trans s2) _ fun vb H3 s3 r3 => ⟨i, j, r2.int_eq, r3.int_eq, hc, q _ H3 (s2.trans s3) (hg H3)⟩
theorem e_add (ha : Ev ta σ H (.int i)) (hb : Ev tb σ H (.int j)) : Ev (tOp (rI0 fun i j => .int (i + j)) ta tb) σ H (.int (i + j)) := e_i0 (f := fun i j => .int (i + j)) (fun _ => .int _) ha hb
theorem e_sub (ha : Ev ta σ H (.int i)) (hb : Ev tb σ H (.int j)) : Ev (tOp (rI0 fun i j => .int (i - j)) ta tb) σ H (.int (i - j)) := e_i0 (f := fun i j => .int (i - j)) (fun _ => .int _) ha hb
theorem e_lt (ha : Ev ta σ H (.int i)) (hb : Ev tb σ H (.int j)) : Ev (tOp (rI0 fun i j => .bl (decide (i < j))) ta tb) σ H (.bl (decide (i < j))) := e_i0 (f := fun i j => .bl (decide (i < j))) (fun _ => .bl _) ha hb
theorem e_gt (ha : Ev ta σ H (.int i)) (hb : Ev tb σ H (.int j)) : Ev (tOp (rI0 fun i j => .bl (decide (j < i))) ta tb) σ H (.bl (decide (j < i))) := e_i0 (f := fun i j => .bl (decide (j < i))) (fun _ => .bl _) ha hb
theorem e_le (ha : Ev ta σ H (.int i)) (hb : Ev tb σ H (.int j)) : Ev (tOp (rI0 fun i j => .bl (decide (i ≤ j))) ta tb) σ H (.bl (decide (i ≤ j))) := e_i0 (f := fun i j => .bl (decide (i ≤ j))) (fun _ => .bl _) ha hb
/-- a == b, a != b of two ints, two bools -/
theorem e_eqI (ha : Ev ta σ H (.int i)) (hb : Ev tb σ H (.int j)) : Ev (tOp rEq ta tb) σ H (.bl (decide (i = j))) := fun H1 s Q q =>
  ha H1 s _ fun va H2 s2 r2 => hb H2 (s.trans s2) _ fun vb H3 s3 r3 => by
    rw [r2.int_eq, r3.int_eq]
    refine ⟨rfl, ?_⟩
    have e : decide (V.int i = V.int j) = decide (i = j) := by
      by_cases z : i = j
      · rw [z]; simp
      · rw [decide_eq_false z, decide_eq_false (fun w => z (V.int.inj w))]
    rw [e]
    exact q _ H3 (s2.trans s3) (.bl _)
theorem e_neI (ha : Ev ta σ H (.int i)) (hb : Ev tb σ H (.int j)) : Ev (tOp rNe ta tb) σ H (.bl (!decide (i = j))) := fun H1 s Q q =>
  ha H1 s _ fun va H2 s2 r2 => hb H2 (s.trans s2) _ fun vb H3 s3 r3 => by
    rw [r2.int_eq, r3.int_eq]
    refine ⟨rfl, ?_⟩
    have e : decide (V.int i = V.int j) = decide (i = j) := by
      by_cases z : i = j
      · rw [z]; simp
      · rw [decide_eq_false z, decide_eq_false (fun w => z (V.int.inj w))]
    rw [e]
    exact q _ H3 (s2.trans s3) (.bl _)
theorem e_eqB (ha : Ev ta σ H (.bl a)) (hb : Ev tb σ H (.bl b)) : Ev (tOp rEq ta tb) σ H (.bl (a == b)) := fun H1 s Q q =>
  ha H1 s _ fun va H2 s2 r2 => hb H2 (s.trans s2) _ fun vb H3 s3 r3 => by
    rw [r2.bl_eq, r3.bl_eq]
    refine ⟨rfl, ?_⟩
    have e : decide (V.bl a = V.bl b) = (a == b) := by cases a <;> cases b <;> rfl
    rw [e]
    exact q _ H3 (s2.trans s3) (.bl _)
/-- a is None -/
theorem e_isN {dd : Bool} (ha : Ev ta σ H d) (hd : ∀ H v, R H v d → decide (v = V.non) = dd) : Ev (tIsN ta) σ H (.bl dd) := fun H1 s Q q =>
  ha H1 s _ fun va H2 s2 r2 => by
    rw [hd H2 va r2]
    exact q _ H2 s2 (.bl _)
theorem e_and (ha : Ev ta σ H (.bl a)) (hb : a = true → Ev tb σ H (.bl b)) : Ev (tAndV ta tb) σ H (.bl (a && b)) := fun H1 s Q q =>
  ha H1 s _ fun va H2 s2 r2 => ⟨a, r2.bl_eq, by
    cases a with
    | true =>
      show tb σ H2 Q
      exact hb rfl H2 (s.trans s2) Q fun v H3 s3 r => q v H3 (s2.trans s3) r
    | false =>
      show Q (.bl false) H2
      exact q _ H2 s2 (.bl false)⟩
theorem e_or (ha : Ev ta σ H (.bl a)) (hb : a = false → Ev tb σ H (.bl b)) : Ev (tOrV ta tb) σ H (.bl (a || b)) := fun H1 s Q q =>
  ha H1 s _ fun va H2 s2 r2 => ⟨a, r2.bl_eq, by
    cases a with
    | true =>
      show Q (.bl true) H2
      exact q _ H2 s2 (.bl true)
    | false =>
      show tb σ H2 Q
      exact hb rfl H2 (s.trans s2) Q fun v H3 s3 r => q v H3 (s2.trans s3) r⟩
theorem e_not (ha : Ev ta σ H (.bl a)) : Ev (tNotV ta) σ H (.bl (!a)) := fun H1 s Q q =>
  ha H1 s _ fun va H2 s2 r2 => ⟨a, r2.bl_eq, q _ H2 s2 (.bl _)⟩
theorem t_B (h : Ev te σ H (.bl b)) : EvT (tB te) σ H b := fun H1 s Q q => h H1 s _ fun v H2 s2 r => ⟨b, r.bl_eq, q H2 s2⟩
theorem t_test (h : Ev te σ H (.bl b)) : EvT (tTest te) σ H b := fun H1 s Q q => h H1 s _ fun v H2 s2 r => ⟨b, r.bl_eq, q H2 s2⟩
theorem t_and (h1 : EvT t σ H a) (h2 : a = true → EvT u σ H b) : EvT (tAnd t u) σ H (a && b) := fun H1 s Q q => h1 H1 s _ fun H2 s2 => by
  cases a with
  | true =>
    show u σ H2 Q
    exact h2 rfl H2 (s.trans s2) Q fun H3 s3 => q H3 (s2.trans s3)
  | false =>
    show Q false H2
    exact q H2 s2
theorem t_or (h1 : EvT t σ H a) (h2 : a = false → EvT u σ H b) : EvT (tOr t u) σ H (a || b) := fun H1 s Q q => h1 H1 s _ fun H2 s2 => by
  cases a with
  | true =>
    show Q true H2
    exact q H2 s2
  | false =>
    show u σ H2 Q
    exact h2 rfl H2 (s.trans s2) Q fun H3 s3 => q H3 (s2.trans s3)
theorem t_not (h : EvT t σ H a) : EvT (tNot t) σ H (!a) := fun H1 s Q q => h H1 s _ fun H2 s2 => q H2 s2
/-- low <= value <= high -/
theorem e_chain {f g : Int → Int → Bool} (ha : Ev ta σ H (.int i)) (hb : Ev tb σ H (.int j)) (hc : Ev tc σ H (.int k)) :
    Ev (tChain (rI0 fun i j => .bl (f i j)) (rI0 fun i j => .bl (g i j)) ta tb tc) σ H (.bl (f i j && g j k)) := fun H1 s Q q =>
  ha H1 s _ fun va H2 s2 r2 => hb H2 (s.trans s2) _ fun vb H3 s3 r3 => ⟨i, j, r2.int_eq, r3.int_eq, f i j, rfl, by
    cases hf : f i j with
    | true =>
      refine iteT (hc H3 ((s.trans s2).trans s3) _ fun vc H4 s4 r4 => ⟨j, k, r3.int_eq, r4.int_eq, ?_⟩)
      have e : (true && g j k) = g j k := Bool.true_and _
      rw [hf, e] at q
      exact q _ H4 ((s2.trans s3).trans s4) (.bl _)
    | false =>
      refine iteF ?_
      rw [hf, Bool.false_and] at q
      exact q _ H3 (s2.trans s3) (.bl false)⟩
theorem a_nil : EvA tNil σ H [] := fun H1 _ _ q => q [] H1 (Same.refl H1) .nil
theorem a_cons {tr : TA} (h : Ev ta σ H d) (hr : EvA tr σ H ds) : EvA (tCons ta tr) σ H (d :: ds) := fun H1 s Q q =>
  h H1 s _ fun v H2 s2 r2 => hr H2 (s.trans s2) _ fun vs H3 s3 r3 => q _ H3 (s2.trans s3) (.cons (r2.by (Kp.same s3)) r3)
theorem sz1 {n : Nat} (h : n ≤ 5000) : n ≤ sizeLine := Nat.le_trans h (by decide)
theorem sz2 {n : Nat} (h : n ≤ 5000) : n < sizeLine := Nat.lt_of_le_of_lt h (by decide)
theorem e_tup {ta : TA} (h : EvA ta σ H ds) (hl : ds.length ≤ 5000) : Ev (tTup ta) σ H (.tup ds) := fun H1 s Q q =>
  h H1 s _ fun vs H2 s2 r2 => ⟨sz1 (by rw [r2.length]; exact hl), fun p hp => q _ _ (s2.trans (same_new hp)) (.tup (.inl upd_same) (r2.by (Kp.new hp)))⟩
theorem l_lst {ta : TA} (h : EvA ta σ H ds) (hl : ds.length ≤ 5000) : EvL (tLst ta) σ H ds := fun H1 s Q q =>
  h H1 s _ fun vs H2 s2 r2 => ⟨sz1 (by rw [r2.length]; exact hl), fun p hp => q p vs _ (s2.trans (same_new hp)) (s2.free hp) upd_same (r2.by (Kp.new hp))⟩
def rLn (K : PySem.W.Frag) : List V → Hp → VK → Prop := fun xs H Q => ∃ x n, xs = [x] ∧ LenV K x H n ∧ Q (.int n) H
theorem e_lenT (h : Ev te σ H (.tup ds)) : Ev (tCB (rLn K) (tCons te tNil)) σ H (.int (ds.length : Int)) := fun H1 s Q q =>
  h H1 s _ fun v H2 s2 r2 => by
    obtain ⟨p, xs, rfl, h1, h2⟩ := r2.tup_at
    refine ⟨_, ds.length, rfl, .inr ⟨xs, sqT_of h1, h2.length.symm⟩, q _ H2 s2 (.int _)⟩
theorem e_lenL {p : Addr} {xs : List V} (hp : H p = some (.lst xs)) (h : EvV te σ H (.ref p)) : Ev (tCB (rLn K) (tCons te tNil)) σ H (.int (xs.length : Int)) := fun H1 s Q q =>
  h H1 s _ fun H2 s2 => ⟨_, xs.length, rfl, .inl ⟨xs, sqL_of (s2 _ _ (s _ _ hp)), rfl⟩, q _ H2 s2 (.int _)⟩
theorem e_isi {n : String} (h : Ev te σ H d) (hk : kitB d.ty n = some b) : Ev (tCB (rIsi K) (tCons te (tCons (tC (.ty n)) tNil))) σ H (.bl b) := fun H1 s Q q =>
  h H1 s _ fun v H2 s2 r2 => ⟨v, .ty n, .type d.ty, .type n, b, rfl, .ty n, r2.tyx, kit_ty hk, q _ H2 s2 (.bl b)⟩
/-- tuple(l) of a new list -/
def rTupOf (K : PySem.W.Frag) : List V → Hp → VK → Prop := fun xs H Q => ∃ p ys, xs = [.ref p] ∧ ((SqL K H p ys ∧ ∀ l, H l = none → Q (.ref l) (upd H l (.tup ys))) ∨ (SqT K H p ys ∧ Q (.ref p) H))
theorem e_tupL (h : EvL te σ H ds) : Ev (tCB (rTupOf K) (tCons te tNil)) σ H (.tup ds) := fun H1 s Q q =>
  h H1 s _ fun p xs H2 s2 hn hp r => ⟨p, xs, rfl, .inl ⟨sqL_of hp, fun l hl => q _ _ (s2.trans (same_new hl)) (.tup (.inl upd_same) (r.by (Kp.new hl)))⟩⟩
theorem e_tupV {p : Addr} {xs : List V} (hp : H p = some (.lst xs)) (hr : RA H xs ds) (h : EvV te σ H (.ref p)) : Ev (tCB (rTupOf K) (tCons te tNil)) σ H (.tup ds) := fun H1 s Q q =>
  h H1 s _ fun H2 s2 => ⟨p, xs, rfl, .inl ⟨sqL_of (s2 _ _ (s _ _ hp)), fun l hl => q _ _ (s2.trans (same_new hl)) (.tup (.inl upd_same) ((hr.by (Kp.same (s.trans s2))).by (Kp.new hl)))⟩⟩
theorem e_all {bs : List Bool} (h : EvL te σ H (bs.map Dt.bl)) : Ev (tCB (rAll K) (tCons te tNil)) σ H (.bl (bs.all id)) := fun H1 s Q q =>
  h H1 s _ fun p xs H2 s2 hn hp r => ⟨p, bs, rfl, sqL_of (by rw [hp, r.bls]), q _ H2 s2 (.bl _)⟩

/-! ### promises on data -/
/-- with the arguments ds the answer is some d of P -/
abbrev Pp := List Dt → (Dt → Prop) → Prop
def spP (pp : Pp) : Sp := fun vs H Q _ => ∃ ds P, RA H vs ds ∧ pp ds P ∧ ∀ v H' d, Same H H' → R H' v d → P d → Q v H'
theorem e_call {pp : Pp} {ta : TA} {E : XK} (h : EvA ta σ H ds) (hp : pp ds (fun z => z = d)) : Ev (tCall (spP pp) [] E ta) σ H d := fun H1 s Q q =>
  h H1 s _ fun vs H2 s2 r2 => ⟨ds, _, by rw [List.append_nil]; exact r2, hp, fun v H3 d' s3 r3 e => q v H3 (s2.trans s3) (e ▸ r3)⟩

/-! ### statements -/
variable {D : Ends} {tu tw tz : TS} {g : TG}
theorem s_ret (h : Ev te σ H d) (q : ∀ v H1, Same H H1 → R H1 v d → D.rt v H1) : tRet te D σ H := h H (Same.refl H) _ q
theorem s_retL (h : EvL te σ H ds) (q : ∀ p xs H1, Same H H1 → H p = none → H1 p = some (.lst xs) → RA H1 xs ds → D.rt (.ref p) H1) : tRet te D σ H := h H (Same.refl H) _ q
theorem s_if (h : EvT t σ H b) (h1 : b = true → ∀ H1, Same H H1 → tu D σ H1) (h2 : b = false → ∀ H1, Same H H1 → tw D σ H1) : tIfS t tu tw D σ H := h H (Same.refl H) _ fun H1 s => by
  cases b with
  | true => exact iteT (h1 rfl H1 s)
  | false => exact iteF (h2 rfl H1 s)
theorem q_if (h : EvT t σ H b) (h1 : b = true → ∀ H1, Same H H1 → tu { D with nx := tz D } σ H1) (h2 : b = false → ∀ H1, Same H H1 → tw { D with nx := tz D } σ H1) : tSeq (tIfS t tu tw) tz D σ H := s_if (D := { D with nx := tz D }) h h1 h2
theorem s_set {n : Nat} (h : Ev te σ H d) (q : ∀ v H1, Same H H1 → R H1 v d → D.nx (σ.set n (some v)) H1) : tAsg te (gName n) D σ H := h H (Same.refl H) _ q
theorem q_set {n : Nat} (h : Ev te σ H d) (q : ∀ v H1, Same H H1 → R H1 v d → tz D (σ.set n (some v)) H1) : tSeq (tAsg te (gName n)) tz D σ H := s_set (D := { D with nx := tz D }) h q
theorem q_setL {n : Nat} (h : EvL te σ H ds) (q : ∀ p xs H1, Same H H1 → H p = none → H1 p = some (.lst xs) → RA H1 xs ds → tz D (σ.set n (some (.ref p))) H1) : tSeq (tAsg te (gName n)) tz D σ H := h H (Same.refl H) _ q
/-- a, b, c = t -/
theorem q_unp3 {n1 n2 n3 : Nat} {d1 d2 d3 : Dt} (h : Ev te σ H (.tup [d1, d2, d3])) (q : ∀ v1 v2 v3 H1, Same H H1 → R H1 v1 d1 → R H1 v2 d2 → R H1 v3 d3 → tz D (((σ.set n1 (some v1)).set n2 (some v2)).set n3 (some v3)) H1) :
    tSeq (tAsg te (gTup K 3 (gCons (gName n1) (gCons (gName n2) (gCons (gName n3) gNil))))) tz D σ H := h H (Same.refl H) _ fun v H1 s r => by
  obtain ⟨p, xs, rfl, h1, h2⟩ := r.tup_at
  cases h2 with
  | cons r1 t1 =>
    cases t1 with
    | cons r2 t2 =>
      cases t2 with
      | cons r3 t3 =>
        cases t3
        exact ⟨p, _, rfl, sqT_of h1, rfl, _, _, rfl, _, _, rfl, _, _, rfl, rfl, q _ _ _ H1 s r1 r2 r3⟩
theorem q_drop (h : Ev te σ H d) (q : ∀ H1, Same H H1 → tz D σ H1) : tSeq (tDrop te) tz D σ H := h H (Same.refl H) _ fun v H1 s r => q H1 s
/-- l.append(e) -/
theorem s_app {p : Addr} {xs : List V} (hp : H p = some (.lst xs)) (hr : RA H xs ds) (hl : EvV ta σ H (.ref p)) (h : Ev te σ H d) (hz : xs.length ≤ 5000)
    (q : ∀ xs' H1, Kp H H1 → (∀ b o, b ≠ p → H b = some o → H1 b = some o) → H1 p = some (.lst xs') → RA H1 xs' (ds ++ [d]) → D.nx σ H1) : tDrop (tBM K "list" rAppend ta (tCons te tNil)) D σ H := hl H (Same.refl H) _ fun H1 s1 =>
  ⟨.inl ⟨rfl, xs, sqL_of (s1 _ _ hp)⟩, h H1 s1 _ fun v H2 s2 r2 => by
    have e2 : H2 p = some (.lst xs) := s2 _ _ (s1 _ _ hp)
    refine ⟨p, xs, v, rfl, rfl, e2, sz2 hz, q (xs ++ [v]) _ ((Kp.same (s1.trans s2)).trans (Kp.list e2)) (fun b o hb e => ?_) upd_same (((hr.by (Kp.same (s1.trans s2))).by (Kp.list e2)).snoc (r2.by (Kp.list e2)))⟩
    rw [upd_ne hb]
    exact s2 _ _ (s1 _ _ e)⟩
theorem q_app {p : Addr} {xs : List V} (hp : H p = some (.lst xs)) (hr : RA H xs ds) (hl : EvV ta σ H (.ref p)) (h : Ev te σ H d) (hz : xs.length ≤ 5000)
    (q : ∀ xs' H1, Kp H H1 → (∀ b o, b ≠ p → H b = some o → H1 b = some o) → H1 p = some (.lst xs') → RA H1 xs' (ds ++ [d]) → tz D σ H1) : tSeq (tDrop (tBM K "list" rAppend ta (tCons te tNil))) tz D σ H := s_app (D := { D with nx := tz D }) hp hr hl h hz q
/-- for x in t -/
theorem s_forT {n : Nat} {tl : TE} (h : Ev tl σ H (.tup ds)) (Pv : Hp → Nat → L2.St → Hp → Prop) (h0 : ∀ H1, Same H H1 → Pv H1 0 σ H1) (hk : ∀ H1 i σ' H', Pv H1 i σ' H' → Kp H1 H')
    (hs : ∀ H1 (i : Nat) d v σ' H', Same H H1 → ds[i]? = some d → R H' v d → Pv H1 i σ' H' → tu { D with nx := Pv H1 (i + 1), ct := Pv H1 (i + 1), bk := D.nx } (σ'.set n (some v)) H') (hd : ∀ H1 σ' H', Same H H1 → Pv H1 ds.length σ' H' → D.nx σ' H') : tFor (iTup K tl) (gName n) tu D σ H :=
  h H (Same.refl H) _ fun v H1 s r => by
    obtain ⟨p, xs, rfl, h1, h2⟩ := r.tup_at
    refine ⟨p, rfl, ⟨xs, sqT_of h1⟩, for_tup (xs := xs) (Pv H1) (h0 H1 s) (fun i σ' H' _ p' => sqT_of (rd_kp (hk _ _ _ _ p') h1)) (fun i x σ' H' hx p' => ?_) (fun σ' H' p' => hd H1 σ' H' s (by rw [← h2.length]; exact p'))⟩
    obtain ⟨d', e1, e2⟩ := h2.got hx
    exact hs H1 i d' x σ' H' s e1 (e2.by (hk _ _ _ _ p')) p'
theorem q_forT {n : Nat} {tl : TE} (h : Ev tl σ H (.tup ds)) (Pv : Hp → Nat → L2.St → Hp → Prop) (h0 : ∀ H1, Same H H1 → Pv H1 0 σ H1) (hk : ∀ H1 i σ' H', Pv H1 i σ' H' → Kp H1 H')
    (hs : ∀ H1 (i : Nat) d v σ' H', Same H H1 → ds[i]? = some d → R H' v d → Pv H1 i σ' H' → tu { D with nx := Pv H1 (i + 1), ct := Pv H1 (i + 1), bk := tz D } (σ'.set n (some v)) H') (hd : ∀ H1 σ' H', Same H H1 → Pv H1 ds.length σ' H' → tz D σ' H') : tSeq (tFor (iTup K tl) (gName n) tu) tz D σ H :=
  s_forT (D := { D with nx := tz D }) h Pv h0 hk hs hd
/-- for i in range(n) -/
theorem s_forR {j n : Nat} {ta : TA} (h : EvA ta σ H [.int (n : Int)]) (hn : n ≤ 5000) (Pv : Hp → Nat → L2.St → Hp → Prop) (h0 : ∀ H1, Same H H1 → Pv H1 0 σ H1)
    (hs : ∀ H1 (i : Nat) σ' H', Same H H1 → i < n → Pv H1 i σ' H' → tu { D with nx := Pv H1 (i + 1), ct := Pv H1 (i + 1), bk := D.nx } (σ'.set j (some (.int (i : Int)))) H') (hd : ∀ H1 σ' H', Same H H1 → Pv H1 n σ' H' → D.nx σ' H') : tFor (iRng1 ta) (gName j) tu D σ H :=
  h H (Same.refl H) _ fun vs H1 s r => by
    cases r with
    | cons r t =>
      cases t
      refine ⟨(n : Int), by rw [r.int_eq], by omega, by omega, ?_⟩
      have e : ((n : Int)).toNat = n := by omega
      rw [e]
      refine for_range (lo := 0) (n := n) (Pv H1) (h0 H1 s) (fun i σ' H' hi p => ?_) (fun σ' H' p => hd H1 σ' H' s p)
      have e0 : (0 : Int) + (i : Int) = (i : Int) := Int.zero_add _
      show tu { D with nx := Pv H1 (i + 1), ct := Pv H1 (i + 1), bk := D.nx } (σ'.set j (some (.int ((0 : Int) + (i : Int))))) H'
      rw [e0]
      exact hs H1 i σ' H' s hi p
theorem q_forR {j n : Nat} {ta : TA} (h : EvA ta σ H [.int (n : Int)]) (hn : n ≤ 5000) (Pv : Hp → Nat → L2.St → Hp → Prop) (h0 : ∀ H1, Same H H1 → Pv H1 0 σ H1)
    (hs : ∀ H1 (i : Nat) σ' H', Same H H1 → i < n → Pv H1 i σ' H' → tu { D with nx := Pv H1 (i + 1), ct := Pv H1 (i + 1), bk := tz D } (σ'.set j (some (.int (i : Int)))) H') (hd : ∀ H1 σ' H', Same H H1 → Pv H1 n σ' H' → tz D σ' H') : tSeq (tFor (iRng1 ta) (gName j) tu) tz D σ H :=
  s_forR (D := { D with nx := tz D }) h hn Pv h0 hs hd

/-! ### comprehensions -/
/-- the new list at L, so far es; all of H as it was -/
def Cw (H : Hp) (L : Addr) (es : List Dt) (H' : Hp) : Prop := H L = none ∧ Same H H' ∧ ∃ acc, H' L = some (.lst acc) ∧ RA H' acc es
theorem Cw.start {L : Addr} (h : H L = none) : Cw H L [] (upd H L (.lst [])) := ⟨h, same_new h, [], upd_same, .nil⟩
theorem Cw.turn {L : Addr} (c : Cw H L es H') (hz : es.length ≤ 5000) (he : Ev te σ H' e) : te σ H' fun y H4 => ∃ acc, H4 L = some (.lst acc) ∧ acc.length < sizeLine ∧ Cw H L (es ++ [e]) (upd H4 L (.lst (acc ++ [y]))) := by
  obtain ⟨h0, s, acc, hL, hr⟩ := c
  refine he H' (Same.refl H') _ fun v H4 s4 r4 => ⟨acc, s4 _ _ hL, sz2 (by rw [hr.length]; exact hz), h0, same_mut (s.trans s4) h0, acc ++ [v], upd_same, ?_⟩
  have k := (Kp.same s4).trans (Kp.list (ys := acc ++ [v]) (s4 _ _ hL))
  exact (hr.by k).snoc (r4.by (Kp.list (s4 _ _ hL)))
theorem Cw.end_ {L : Addr} (c : Cw H L es H') : ∃ xs, Same H H' ∧ H L = none ∧ H' L = some (.lst xs) ∧ RA H' xs es := let ⟨a, b, xs, c, d⟩ := c; ⟨xs, b, a, c, d⟩
theorem map_take {α β : Type} {f : α → β} {l : List α} {i : Nat} {x : α} (h : l[i]? = some x) : (l.take (i + 1)).map f = (l.take i).map f ++ [f x] := by
  rw [List.take_add_one, h, List.map_append]
  rfl
/-- [e for x in t] -/
theorem l_lcT {n : Nat} {tl : TE} {vs : List Nat} {f : Dt → Dt} (h : Ev tl σ H (.tup ds)) (hw : ∀ x, wipe ((wipe σ vs).set n (some x)) vs = wipe σ vs) (hz : ds.length ≤ 5000)
    (he : ∀ (i : Nat) d v H1, Same H H1 → ds[i]? = some d → R H1 v d → Ev te ((wipe σ vs).set n (some v)) H1 (f d)) : EvL (tLc (iTup K tl) (gName n) tYes te vs) σ H (ds.map f) := fun H0 s0 Q q =>
  h H0 s0 _ fun v H1 s1 r1 => by
    obtain ⟨p, xs, rfl, h1, h2⟩ := r1.tup_at
    refine ⟨p, rfl, ⟨xs, sqT_of h1⟩, fun L hL => lc_tup (xs := xs) (fun i H' => Cw H1 L ((ds.take i).map f) H') (Cw.start hL) (fun i H' _ c => sqT_of (rd_kp (Kp.same c.2.1) h1)) (fun i x H' hx c => ?_) (fun H' c => ?_)⟩
    · obtain ⟨d', e1, e2⟩ := h2.got hx
      refine ⟨hw x, ?_⟩
      have hi := (List.getElem?_eq_some_iff.mp e1).1
      have t := Cw.turn (σ := (wipe σ vs).set n (some x)) c (by rw [List.length_map, List.length_take]; omega) (he i d' x H' ((s0.trans s1).trans c.2.1) e1 (e2.by (Kp.same c.2.1)))
      rw [← map_take e1] at t
      exact t
    · have c' : Cw H1 L (ds.map f) H' := by
        have e : ds.take xs.length = ds := List.take_of_length_le (by rw [h2.length] <;> exact Nat.le_refl _)
        rw [e] at c
        exact c
      obtain ⟨ys, a1, a2, a3, a4⟩ := c'.end_
      exact q L ys H' (s1.trans a1) (s1.free a2) a3 a4
/-- [e for x in l], l a list that stands at p -/
theorem l_lcV {n : Nat} {tl : TE} {vs : List Nat} {f : Dt → Dt} {p : Addr} {xs : List V} (hp : H p = some (.lst xs)) (hr : RA H xs ds) (h : EvV tl σ H (.ref p)) (hw : ∀ x, wipe ((wipe σ vs).set n (some x)) vs = wipe σ vs) (hz : ds.length ≤ 5000)
    (he : ∀ (i : Nat) d v H1, Same H H1 → ds[i]? = some d → R H1 v d → Ev te ((wipe σ vs).set n (some v)) H1 (f d)) : EvL (tLc (iList K tl) (gName n) tYes te vs) σ H (ds.map f) := fun H0 s0 Q q =>
  h H0 s0 _ fun H1 s1 => by
    have e1 : H1 p = some (.lst xs) := s1 _ _ (s0 _ _ hp)
    have h2 : RA H1 xs ds := hr.by (Kp.same (s0.trans s1))
    refine ⟨p, rfl, ⟨xs, sqL_of e1⟩, fun L hL => lc_list (xs := xs) (fun i H' => Cw H1 L ((ds.take i).map f) H') (Cw.start hL) (fun i H' _ c => sqL_of (c.2.1 _ _ e1)) (fun i x H' hx c => ?_) (fun H' c => ?_)⟩
    · obtain ⟨d', e1, e2⟩ := h2.got hx
      refine ⟨hw x, ?_⟩
      have hi := (List.getElem?_eq_some_iff.mp e1).1
      have t := Cw.turn (σ := (wipe σ vs).set n (some x)) c (by rw [List.length_map, List.length_take]; omega) (he i d' x H' ((s0.trans s1).trans c.2.1) e1 (e2.by (Kp.same c.2.1)))
      rw [← map_take e1] at t
      exact t
    · have c' : Cw H1 L (ds.map f) H' := by
        have e : ds.take xs.length = ds := List.take_of_length_le (by rw [h2.length] <;> exact Nat.le_refl _)
        rw [e] at c
        exact c
      obtain ⟨ys, a1, a2, a3, a4⟩ := c'.end_
      exact q L ys H' (s1.trans a1) (s1.free a2) a3 a4
/-- [e for x in l], l a new list -/
theorem l_lcL {n : Nat} {tl : TE} {vs : List Nat} {f : Dt → Dt} (h : EvL tl σ H ds) (hw : ∀ x, wipe ((wipe σ vs).set n (some x)) vs = wipe σ vs) (hz : ds.length ≤ 5000)
    (he : ∀ (i : Nat) d v H1, Same H H1 → ds[i]? = some d → R H1 v d → Ev te ((wipe σ vs).set n (some v)) H1 (f d)) : EvL (tLc (iList K tl) (gName n) tYes te vs) σ H (ds.map f) := fun H0 s0 Q q =>
  h H0 s0 _ fun p xs H1 s1 hn hp hr => by
    have g := l_lcV (K := K) (te := te) (n := n) (vs := vs) (f := f) (tl := tC (.ref p)) (σ := σ) hp hr v_c hw hz (fun i d v H2 s2 a b => he i d v H2 ((s0.trans s1).trans s2) a b)
    have g2 := g H1 (Same.refl H1) Q fun p' xs' H2 s2 a b c => q p' xs' H2 (s1.trans s2) (s1.free a) b c
    exact g2
end
end Ub
set_option maxHeartbeats 4000000
/-! UbSpec: how the maths stands as data; what each def promises; calls. -/
namespace Ub
open PySem PySem.Spec PyProof.Rows L2

/-! ### encodings -/
def natD (n : Nat) : Dt := .int (n : Int)
def rowD (l : List Nat) : Dt := .tup (l.map natD)
def sysD (S : Sys) : Dt := .tup [natD S.n, natD S.start, .tup (S.T.map rowD)]
def nxtD (a : List (List Nat)) : Dt := .tup (a.map rowD)
def ruleD (r : Rule) : Dt := .tup [natD r.init, .tup (r.res.map rowD), .tup (r.nxt.map nxtD)]

/-! ### what the tests of the program answer -/
def isWholeB (x : Dt) (lo hi : Int) : Bool := match x with
  | .int i => decide (lo ≤ i) && decide (i ≤ hi)
  | _ => false
def isIndexB (x : Dt) (n : Int) : Bool := match x with
  | .int i => decide (0 ≤ i) && decide (i < n)
  | _ => false
def isRowB (x : Dt) (n : Int) : Bool := match x with
  | .tup l => decide ((l.length : Int) = n)
  | _ => false
def items (x : Dt) : List Dt := match x with
  | .tup l => l
  | _ => []
def areNextsB (x : Dt) (many cmds : Int) : Bool := isRowB x many && ((items x).all (fun row => isRowB row cmds)) && ((items x).all fun row => (items row).all fun note => isIndexB note many)
def at_ (x : Dt) (i : Nat) : Dt := (items x).getD i .non
def isTupB (x : Dt) : Bool := match x with
  | .tup _ => true
  | _ => false
def resB (many states : Int) (x : Dt) : Bool := (items x).all fun row => isRowB row many && (items row).all fun s => isIndexB s states
def isRuleB (S : Sys) (x : Dt) : Bool :=
  if isRowB x 3 && isRowB (at_ x 1) S.n && isRowB (at_ x 2) S.n then
    if isTupB (at_ (at_ x 1) 0) && (decide (1 ≤ (items (at_ (at_ x 1) 0)).length) && decide ((items (at_ (at_ x 1) 0)).length ≤ 8)) then
      if isIndexB (at_ x 0) (items (at_ (at_ x 1) 0)).length then
        if resB (items (at_ (at_ x 1) 0)).length S.n (at_ x 1) then (items (at_ x 2)).all fun row => areNextsB row (items (at_ (at_ x 1) 0)).length S.T.length
        else false
      else false
    else false
  else false

/-! ### promises -/
abbrev spIsWhole : Sp := spP fun ds P => ∃ x lo hi, ds = [x, .int lo, .int hi] ∧ P (.bl (isWholeB x lo hi))
abbrev spIsSystem : Sp := spP fun ds P => ∃ S : Sys, S.Ok ∧ ds = [sysD S] ∧ P (.bl true)
abbrev spIsState : Sp := spP fun ds P => ∃ (S : Sys) (x : Nat), S.Ok ∧ x < S.n ∧ ds = [sysD S, natD x] ∧ P (.bl true)
abbrev spIsCommand : Sp := spP fun ds P => ∃ (S : Sys) (c : Nat), S.Ok ∧ c < S.T.length ∧ ds = [sysD S, natD c] ∧ P (.bl true)
def spStatesOf : Sp := fun vs H Q _ => ∃ S : Sys, S.Ok ∧ RA H vs [sysD S] ∧ ∀ p xs H', Same H H' → H p = none → H' p = some (.lst xs) → RA H' xs ((List.range S.n).map natD) → Q (.ref p) H'
abbrev spStep : Sp := spP fun ds P => ∃ (S : Sys) (x c : Nat), S.Ok ∧ x < S.n ∧ c < S.T.length ∧ ds = [sysD S, natD x, natD c] ∧ P (natD (S.step x c))
/-- an action in bounds -/
structure Act (S : Sys) (x c : Nat) : Prop where
  ok : S.Ok
  x : x < S.n
  c : c < S.T.length
theorem Act.a {S : Sys} {x c : Nat} (h : Act S x c) : S.step x c < S.n := h.ok.step_lt h.c h.x
abbrev pairsP (S : Sys) (a b : Nat) (ks : List Pair) : Prop := ks.Nodup ∧ (∀ q ∈ ks, Rch S.succ2 (a, b) q)
def spPairsFrom : Sp := fun vs H Q _ => ∃ (S : Sys) (a b : Nat), S.Ok ∧ a < S.n ∧ b < S.n ∧ RA H vs [sysD S, natD a, natD b] ∧
  ∀ p kvs ks H', Same H H' → H p = none → H' p = some (.dT kvs) → kvs.map (·.1) = ks.map pairK → pairsP S a b ks → Q (.ref p) H'
def spCounterpartsOf : Sp := fun vs H Q _ => ∃ (S : Sys) (a b : Nat), S.Ok ∧ a < S.n ∧ b < S.n ∧ RA H vs [sysD S, natD a, natD b] ∧
  ∀ p xs (rows : List (List Nat)) H', Same H H' → H p = none → H' p = some (.lst xs) → RA H' xs (rows.map rowD) → rows.length = S.n → (∀ (x : Nat) row, rows[x]? = some row → row.Nodup ∧ ∀ y ∈ row, Rch S.succ2 (a, b) (x, y)) → Q (.ref p) H'
abbrev spCheckAction : Sp := spP fun ds P => ∃ (S : Sys) (x c : Nat), Act S x c ∧ ds = [sysD S, natD x, natD c] ∧ P .non
abbrev spIsIndex : Sp := spP fun ds P => ∃ x n, ds = [x, .int n] ∧ P (.bl (isIndexB x n))
abbrev spIsRow : Sp := spP fun ds P => ∃ x n, ds = [x, .int n] ∧ P (.bl (isRowB x n))
/-- k is not more than the notes of a rule that works -/
def LeastP (S : Sys) (a b k : Nat) : Prop := ∀ (r : Rule) m, r.Ok S m → r.Works S a b → k ≤ m
abbrev spNotesOf : Sp := spP fun ds P => ∃ (S : Sys) (x c : Nat), Act S x c ∧ ds = [sysD S, natD x, natD c] ∧ ∀ k, LeastP S (S.step x c) x k → P (.tup [.lst, natD k])
abbrev spLeastNotes : Sp := spP fun ds P => ∃ (S : Sys) (x c : Nat), Act S x c ∧ ds = [sysD S, natD x, natD c] ∧ ∀ k, LeastP S (S.step x c) x k → P (natD k)
abbrev spAreNexts : Sp := spP fun ds P => ∃ x m c, m ≤ 100 ∧ c ≤ 100 ∧ ds = [x, .int m, .int c] ∧ P (.bl (areNextsB x m c))
abbrev spIsRule : Sp := spP fun ds P => ∃ (S : Sys) (x : Dt), S.Ok ∧ ds = [sysD S, x] ∧ P (.bl (isRuleB S x))
abbrev spWorks : Sp := spP fun ds P => ∃ (S : Sys) (x c : Nat) (r : Rule) (m : Nat), Act S x c ∧ r.Ok S m ∧ ds = [sysD S, natD x, natD c, ruleD r] ∧ ∀ b : Bool, (b = true ↔ r.Works S (S.step x c) x) → P (.bl b)
abbrev spAccepts : Sp := spP fun ds P => ∃ (S : Sys) (x c : Nat) (v : Dt), Act S x c ∧ ds = [sysD S, natD x, natD c, v] ∧
  ((isRuleB S v = false ∧ P (.bl false)) ∨ ∃ (r : Rule) (m : Nat), v = ruleD r ∧ r.Ok S m ∧ ∀ b : Bool, (b = true ↔ r.Works S (S.step x c) x) → P (.bl b))

/-- the stream of draws that stands at s -/
def Strm (s l : Addr) (H : Hp) : Prop := ∃ (c k : Int) (ns : List Int), H s = some (.lst [.ref l, .int c, .int k]) ∧ H l = some (.lst (ns.map V.int)) ∧ l ≠ s ∧ 0 ≤ c ∧ 0 ≤ k
/-- all but s is as it was -/
def SameS (s : Addr) (H H' : Hp) : Prop := ∀ b o, b ≠ s → H b = some o → H' b = some o
def spStream (K : PySem.W.Frag) : Sp := fun vs H Q _ => ∃ (a : Addr) (ns : List Int), vs = [.ref a] ∧ SqL K H a (ns.map V.int) ∧ ∀ s l H', Same H H' → H s = none → Strm s l H' → Q (.ref s) H'
def spNext : Sp := fun vs H Q _ => ∃ (s l : Addr) (m : Nat), vs = [.ref s, .int (m : Int)] ∧ Strm s l H ∧ 1 ≤ m ∧ m ≤ 1000 ∧ ∀ (d : Nat) H', d < m → SameS s H H' → Strm s l H' → Q (.int (d : Int)) H'
abbrev spEqual : Sp := spP fun ds P => ∃ a b : Bool, ds = [.bl a, .bl b] ∧ P (.bl (a == b))
def spSystem : Sp := fun vs H Q _ => ∃ s l : Addr, vs = [.ref s, .int 4, .int 3] ∧ Strm s l H ∧ ∀ v (S : Sys) H', S.Ok → SameS s H H' → Strm s l H' → R H' v (sysD S) → Q v H'
abbrev allP (S : Sys) (a b : Nat) (ks : List Pair) : Prop := ks.Nodup ∧ ∀ q, q ∈ ks ↔ Rch S.succ2 (a, b) q
def spLPairs : Sp := fun vs H Q _ => ∃ (S : Sys) (a b : Nat), S.Ok ∧ a < S.n ∧ b < S.n ∧ RA H vs [sysD S, natD a, natD b] ∧
  ∀ p kvs ks H', Same H H' → H p = none → H' p = some (.dT kvs) → kvs.map (·.1) = ks.map pairK → allP S a b ks → Q (.ref p) H'
/-- v is a row, known as an object -/
def FrT (H : Hp) (v : V) (row : List Nat) : Prop := ∃ (a : Addr) (o : Obj), v = .ref a ∧ H a = some (.frz o (.tup ((row.map fun n : Nat => (n : Int)).map V.int))) ∧ o.dict = none ∧ o.cls = .type "tuple"
def spLCounterparts : Sp := fun vs H Q _ => ∃ (S : Sys) (x c : Nat), Act S x c ∧ RA H vs [sysD S, natD x, natD c] ∧
  ∀ p xs (rows : List (List Nat)) H', Same H H' → H p = none → H' p = some (.lst xs) → Paired (FrT H') xs rows → rows.length = S.n → (∀ (z : Nat) row, rows[z]? = some row → row.Nodup ∧ ∀ y, y ∈ row ↔ Rch S.succ2 (S.step x c, x) (z, y)) → Q (.ref p) H'
abbrev spLWorks : Sp := spWorks
abbrev spTold : Sp := spP fun ds P => ∃ (S : Sys) (x c : Nat), Act S x c ∧ ds = [sysD S, natD x, natD c] ∧ ∀ (r : Rule) m, r.Ok S m → P (ruleD r)
def spDrawn : Sp := fun vs H Q _ => ∃ (s l : Addr) (v : V) (S : Sys) (m : Nat), vs = [.ref s, v, .int (m : Int)] ∧ S.Ok ∧ R H v (sysD S) ∧ 1 ≤ m ∧ m ≤ 8 ∧ Strm s l H ∧ ∀ v' (r : Rule) H', r.Ok S m → SameS s H H' → Strm s l H' → R H' v' (ruleD r) → Q v' H'
abbrev spWith : Sp := spP fun ds P => ∃ (l : List Dt) (i : Nat) (x : Dt), i < l.length ∧ l.length ≤ 100 ∧ ds = [.tup l, natD i, x] ∧ P (.tup (l.set i x))
def spBent : Sp := fun vs H Q _ => ∃ (s l : Addr) (v w : V) (S : Sys) (r : Rule) (m : Nat), vs = [.ref s, v, w] ∧ S.Ok ∧ R H v (sysD S) ∧ r.Ok S m ∧ R H w (ruleD r) ∧ Strm s l H ∧ ∀ v' (r' : Rule) H', r'.Ok S m → SameS s H H' → Strm s l H' → R H' v' (ruleD r') → Q v' H'
def spLaw (K : PySem.W.Frag) : Sp := fun vs H Q _ => ∃ (a : Addr) (ns : List Int), vs = [.ref a] ∧ SqL K H a (ns.map V.int) ∧ ns.length ≤ 63 ∧ ∀ H', Q (.bl true) H'

/-! ### calls -/
/-- the module's def x keeps the promise sp -/
structure Cal (P : Program) (w : World) (K : PySem.W.Frag) (mg : Str → Option Value) (base : Heap) (x : Str) (k : Nat) (ps : List Str) (sp : Sp) : Prop where
  ex : ∃ (f : Addr) (fd : FuncData), FnOk P w K mg base CX0 k f fd ps sp ∧ mg x = some (.ref f) ∧ PySem.W.keepIn K (.ref f) = true ∧ Binds K fd ps [] ∧ ∃ oc od osl, K.lookup f = some ⟨oc, od, .func fd, osl⟩
theorem pe_cal {X : Cx} {x : Str} {k : Nat} {ps : List Str} {sp : Sp} {e : Expr} {es : List Expr} {t : TA} {p pos : Pos} (C : Cal X.prog X.w X.K X.mg X.base x k ps sp) (hr : Room k X.A) (hg : Gl X x) (ha : PA X (e :: es) t)
    (hdb : (x == ("__debug__" : Str)) = false := by decide) (he : starEach (e :: es) X.env = (false, eval e X.env) :: starEach es X.env := by rfl) (hpl : (backTo pos (starEach es X.env)).any (·.1) = false := by rfl) :
    PE X (.Call (.Name x p) (e :: es) [] pos) (tCall sp [] E0 t) := by
  obtain ⟨f, fd, F, hm, hk, hb, _⟩ := C.ex
  exact pe_call F hr hg hm hk hb .nil pass0 ha hdb he hpl
def DefAt (K : PySem.W.Frag) (mg : Str → Option Value) (x : Str) (st : Stmt) : Prop := ∃ (f : Addr) (fd : FuncData), FnP K x st f fd ∧ mg x = some (.ref f)
section
variable {P : Program} {w : World} {K : PySem.W.Frag} {mg : Str → Option Value} {base : Heap}
theorem cal_of {x : Str} {st : Stmt} {N ps : List Str} {k : Nat} {sp : Sp} {tt : TS} (D : DefAt K mg x st) (S : FnScope N ps (defScope st))
    (hb : ∀ (kV doc pm : Value) (an : Option Addr) (cdv ct : Value) (us : List Value), us.length = ps.length → bindArgs (PySem.W.fnOf x x (defArgs st) (defBody st) (defScope st) .none kV doc pm an cdv ct) ⟨us, []⟩ = pure (ps.zip us))
    (der : ∀ (f : Addr) (cdv : Value) (A : Around) (outer : List Env) (s : Shared) (H : Hp) (E : XK), Room k (A.deeper (envOfC x (defScope st) s.heap.objs.size f cdv)) → PSs (cxOf CX0 P w K mg base N x (defScope st) f cdv A outer s H E).nox (defBody st) tt)
    (len : ∀ vs H Q E, sp vs H Q E → vs.length = ps.length) (rd : ∀ vs H Q E, sp vs H Q E → tt { nx := fun _ H' => Q .non H', rt := Q } (start N vs) H) : Cal P w K mg base x (k + 1) ps sp := by
  obtain ⟨f, fd, F, hm⟩ := D
  refine ⟨f, fd, F.ok S len (fun cdv A outer s H vs Q E hr h => ?_), hm, F.kp, F.bindsN hb, let ⟨oc, od, _, _, _, _, _, _, _, osl, _, lk, _⟩ := F.ex; ⟨oc, od, osl, lk⟩⟩
  exact ⟨tt, (der f cdv A outer s H E hr).nox, rd vs H Q E h⟩
end
theorem len_spP {pp : Pp} {n : Nat} (h : ∀ ds P, pp ds P → ds.length = n) : ∀ vs H Q E, spP pp vs H Q E → vs.length = n := fun vs H Q E ⟨ds, P, r, p, _⟩ => by
  rw [r.length]
  exact h ds P p

/-! ### the built-ins -/
structure Bi (mg : Str → Option Value) : Prop where
  len : mg "len" = none
  range : mg "range" = none
  isinstance : mg "isinstance" = none
  int_ : mg "int" = none
  bool_ : mg "bool" = none
  tuple_ : mg "tuple" = none
  list_ : mg "list" = none
  str_ : mg "str" = none
  all_ : mg "all" = none
  max_ : mg "max" = none
  sorted_ : mg "sorted" = none
  abs_ : mg "abs" = none
  enum_ : mg "enumerate" = none
  ms : ∃ t, mg "MOST_STATES" = some (.int 8 t)
  mc : ∃ t, mg "MOST_COMMANDS" = some (.int 4 t)
  mn : ∃ t, mg "MOST_NOTES" = some (.int 8 t)
theorem bb_len : bootBuiltins "len" = some (.builtin "len") := by decide +kernel
theorem bb_isi : bootBuiltins "isinstance" = some (.builtin "isinstance") := by decide +kernel
theorem bb_all : bootBuiltins "all" = some (.builtin "all") := by decide +kernel
theorem bb_max : bootBuiltins "max" = some (.builtin "max") := by decide +kernel
theorem bb_sorted : bootBuiltins "sorted" = some (.builtin "sorted") := by decide +kernel
theorem bb_abs : bootBuiltins "abs" = some (.builtin "abs") := by decide +kernel
theorem bb_int : bootBuiltins "int" = some (.type "int") := by decide +kernel
theorem bb_bool : bootBuiltins "bool" = some (.type "bool") := by decide +kernel
theorem bb_tuple : bootBuiltins "tuple" = some (.type "tuple") := by decide +kernel
theorem bb_list : bootBuiltins "list" = some (.type "list") := by decide +kernel
theorem bb_str : bootBuiltins "str" = some (.type "str") := by decide +kernel
section
variable {X : Cx}
theorem pe_gint {x : Str} {i : Int} {pos : Pos} (hg : Gl X x) (hm : ∃ t, X.mg x = some (.int i t)) (hd : (x == ("__debug__" : Str)) = false := by decide) : PE X (.Name x pos) (tC (.int i)) := by
  obtain ⟨t, h⟩ := hm
  exact pe_glob hg h ⟨t, rfl⟩ hd
theorem pe_tyn {x : Str} {n : String} {pos : Pos} (hg : Gl X x) (hm : X.mg x = none) (hv : bootBuiltins x = some (.type n)) (hn : x ≠ "__name__" := by decide) (hd : (x == ("__debug__" : Str)) = false := by decide) : PE X (.Name x pos) (tC (.ty n)) :=
  pe_bltn hg hm hv rfl hn hd
theorem hu65 {k : Nat} {A : Around} (hr : Room k A) : A.units + 65 < cLine := by have := hr.un; omega
theorem call_ln : CallR X (.builtin "len") (rLn X.K) := call_len
theorem call_tof : CallR X (.type "tuple") (rTupOf X.K) := call_tuple_of
def rListOf (K : PySem.W.Frag) : List V → Hp → VK → Prop := fun xs H Q => ∃ p ys, xs = [.ref p] ∧ (SqL K H p ys ∨ SqT K H p ys) ∧ ∀ l, H l = none → Q (.ref l) (upd H l (.lst ys))
theorem call_lof : CallR X (.type "list") (rListOf X.K) := call_list_of
def rAbs : List V → Hp → VK → Prop := fun xs H Q => ∃ i, xs = [.int i] ∧ Q (.int (if i < 0 then -i else i)) H
theorem call_ab : CallR X (.builtin "abs") rAbs := call_abs
def rInt : List V → Hp → VK → Prop := fun xs H Q => (∃ i, xs = [.int i] ∧ Q (.int i) H) ∨ ∃ k, xs = [.bl k] ∧ Q (.int (if k then 1 else 0)) H
theorem call_in : CallR X (.type "int") rInt := call_int1
def tTru (K : PySem.W.Frag) (te : TE) : TT := fun σ H Q => te σ H fun x H' => ∃ k, TruV K x H' k ∧ Q k H'
theorem pt_tru {a : Expr} {ta : TE} (ha : PE X a ta) (he : ∀ whole, isTrue a X.env whole = (do let v ← whole; standAt a.pos; holding [v] (truthy v)) := by intro _; rfl) : PT X a (tTru X.K ta) := pt_truth ha he
end
abbrev rAddI : R2 := rI0 fun i j => .int (i + j)
abbrev rSubI : R2 := rI0 fun i j => .int (i - j)
abbrev rMulI : R2 := rI CMul fun i j => .int (i * j)
abbrev rModI : R2 := rI (fun _ j => j ≠ 0) fun i j => .int (i.fmod j)
abbrev rDivI : R2 := rI CDivN fun i j => .int (i.fdiv j)
abbrev rPowI : R2 := rI CPow fun i j => .int (i ^ j.toNat)
abbrev rLtI : R2 := rI0 fun i j => .bl (decide (i < j))
abbrev rLeI : R2 := rI0 fun i j => .bl (decide (i ≤ j))
abbrev rGtI : R2 := rI0 fun i j => .bl (decide (j < i))
end Ub
set_option maxHeartbeats 8000000
/-! UbDerA: readings and derivations, printed by gen_der.py. -/
namespace Ub
open PySem PySem.Spec PyProof.Rows L2
abbrev N_is_whole : List PySem.Str := ["value", "low", "high"]
theorem sc_is_whole : FnScope N_is_whole ["value", "low", "high"] (defScope s_is_whole) := ⟨rfl, rfl, rfl, by decide +kernel, rfl, by decide +kernel, by decide +kernel⟩
def t_is_whole (K : PySem.W.Frag) : TS := (tRet (tAndV (tCB (rIsi K) (tCons (tVar 0) (tCons (tC (.ty "int")) tNil))) (tAndV (tNotV (tCB (rIsi K) (tCons (tVar 0) (tCons (tC (.ty "bool")) tNil)))) (tChain rLeI rLeI (tVar 1) (tVar 0) (tVar 2)))))
theorem der_is_whole {P : Program} {w : World} {K : PySem.W.Frag} {mg : PySem.Str → Option Value} {base : Heap} (B : Bi mg)  (f : Addr) (cdv : Value) (A : Around) (outer : List Env) (s : Shared) (H : Hp) (E : XK)
    (hr : Room 0 (A.deeper (envOfC "is_whole" (defScope s_is_whole) s.heap.objs.size f cdv))) : PSs (cxOf CX0 P w K mg base N_is_whole "is_whole" (defScope s_is_whole) f cdv A outer s H E).nox (defBody s_is_whole) (t_is_whole K) := by
  have nd : (N_is_whole).Nodup := sc_is_whole.nd
  exact (pss_one (ps_ret (pe_and (pe_callB call_isi (by rfl) B.isinstance bb_isi (pa_cons (pv 0) (pa_cons (pe_tyn (by rfl) B.int_ bb_int) pa_nil))) (pe_and (pe_not (pe_callB call_isi (by rfl) B.isinstance bb_isi (pa_cons (pv 0) (pa_cons (pe_tyn (by rfl) B.bool_ bb_bool) pa_nil)))) (pe_one (pe_chain op_le op_le (pv 1) (pv 0) (pv 2)))))))
theorem cal_is_whole {P : Program} {w : World} {K : PySem.W.Frag} {mg : PySem.Str → Option Value} {base : Heap} (D : DefAt K mg "is_whole" s_is_whole) (B : Bi mg) 
    (len : ∀ vs H Q E, spIsWhole vs H Q E → vs.length = 3) (rd : ∀ vs H Q E, spIsWhole vs H Q E → t_is_whole K { nx := fun _ H' => Q .non H', rt := Q } (start N_is_whole vs) H) : Cal P w K mg base "is_whole" 1 ["value", "low", "high"] spIsWhole :=
  cal_of D sc_is_whole (fun _ _ _ _ _ _ us hl => match us, hl with | [_, _, _], _ => rfl) (fun f cdv A outer s H E hr => der_is_whole B  f cdv A outer s H E hr) len rd
abbrev N_is_system : List PySem.Str := ["value", "states", "start", "commands", "command", "state"]
theorem sc_is_system : FnScope N_is_system ["value"] (defScope s_is_system) := ⟨rfl, rfl, rfl, by decide +kernel, rfl, by decide +kernel, by decide +kernel⟩
def t_is_system (K : PySem.W.Frag) : TS := (tSeq (tIfS (tOr (tNot (tB (tCB (rIsi K) (tCons (tVar 0) (tCons (tC (.ty "tuple")) tNil))))) (tOr (tTest (tOp rNe (tCB (rLn K) (tCons (tVar 0) tNil)) (tC (.int 3)))) (tNot (tB (tCall spIsWhole [] E0 (tCons (tOp (rIxT K) (tVar 0) (tC (.int 0))) (tCons (tC (.int 1)) (tCons (tC (.int 8)) tNil)))))))) (tRet (tC (.bl false))) tNext)
  (tSeq (tAsg (tVar 0) (gTup K 3 (gCons (gName 1) (gCons (gName 2) (gCons (gName 3) gNil)))))
  (tSeq (tIfS (tOr (tNot (tB (tCall spIsWhole [] E0 (tCons (tVar 2) (tCons (tC (.int 0)) (tCons (tOp rSubI (tVar 1) (tC (.int 1))) tNil)))))) (tOr (tNot (tB (tCB (rIsi K) (tCons (tVar 3) (tCons (tC (.ty "tuple")) tNil))))) (tTest (tOp rGtI (tCB (rLn K) (tCons (tVar 3) tNil)) (tC (.int 4)))))) (tRet (tC (.bl false))) tNext)
  (tSeq (tFor (iTup K (tVar 3)) (gName 4) (tSeq (tIfS (tOr (tNot (tB (tCB (rIsi K) (tCons (tVar 4) (tCons (tC (.ty "tuple")) tNil))))) (tTest (tOp rNe (tCB (rLn K) (tCons (tVar 4) tNil)) (tVar 1)))) (tRet (tC (.bl false))) tNext)
  (tIfS (tNot (tB (tCB (rAll K) (tCons (tLc (iTup K (tVar 4)) (gName 5) tYes (tCall spIsWhole [] E0 (tCons (tVar 5) (tCons (tC (.int 0)) (tCons (tOp rSubI (tVar 1) (tC (.int 1))) tNil)))) [5]) tNil)))) (tRet (tC (.bl false))) tNext)))
  (tRet (tC (.bl true)))))))
theorem der_is_system {P : Program} {w : World} {K : PySem.W.Frag} {mg : PySem.Str → Option Value} {base : Heap} (B : Bi mg) (C_is_whole : Cal P w K mg base "is_whole" 1 ["value", "low", "high"] spIsWhole) (f : Addr) (cdv : Value) (A : Around) (outer : List Env) (s : Shared) (H : Hp) (E : XK)
    (hr : Room 1 (A.deeper (envOfC "is_system" (defScope s_is_system) s.heap.objs.size f cdv))) : PSs (cxOf CX0 P w K mg base N_is_system "is_system" (defScope s_is_system) f cdv A outer s H E).nox (defBody s_is_system) (t_is_system K) := by
  have nd : (N_is_system).Nodup := sc_is_system.nd
  exact (pss_cons (ps_if (PW.pt (pw_or (pt_not (pt_val (pe_callB call_isi (by rfl) B.isinstance bb_isi (pa_cons (pv 0) (pa_cons (pe_tyn (by rfl) B.tuple_ bb_tuple) pa_nil))))) (pw_or (pt_cmpR op_ne (pe_callB call_ln (by rfl) B.len bb_len (pa_cons (pv 0) pa_nil)) pe_int (nomark _)) (pw_or1 (pt_not (pt_val (pe_cal C_is_whole hr (by rfl) (pa_cons (pe_ix ix_tup (pv 0) pe_int (fun _ _ => rfl)) (pa_cons pe_int (pa_cons (pe_gint (by rfl) B.ms) pa_nil)))))))))) (pss_one (ps_ret pe_bl)) pss_nil)
    (pss_cons (ps_asg (pv 0) (pg_tup (by rfl) (pgs_cons (pg_name (i := 1) nd rfl (by first | exact Or.inl rfl | exact Or.inr rfl)) (pgs_cons (pg_name (i := 2) nd rfl (by first | exact Or.inl rfl | exact Or.inr rfl)) (pgs_cons (pg_name (i := 3) nd rfl (by first | exact Or.inl rfl | exact Or.inr rfl)) pgs_nil)))))
    (pss_cons (ps_if (PW.pt (pw_or (pt_not (pt_val (pe_cal C_is_whole hr (by rfl) (pa_cons (pv 2) (pa_cons pe_int (pa_cons (pe_op op_sub (pv 1) pe_int) pa_nil)))))) (pw_or (pt_not (pt_val (pe_callB call_isi (by rfl) B.isinstance bb_isi (pa_cons (pv 3) (pa_cons (pe_tyn (by rfl) B.tuple_ bb_tuple) pa_nil))))) (pw_or1 (pt_cmpR op_gt (pe_callB call_ln (by rfl) B.len bb_len (pa_cons (pv 3) pa_nil)) (pe_gint (by rfl) B.mc) (nomark _)))))) (pss_one (ps_ret pe_bl)) pss_nil)
    (pss_cons (ps_for PassesOwn.never rfl (pi_tup (pv 3)) (pg_name (i := 4) nd rfl (by first | exact Or.inl rfl | exact Or.inr rfl)) (pss_cons (ps_if (PW.pt (pw_or (pt_not (pt_val (pe_callB call_isi (by rfl) B.isinstance bb_isi (pa_cons (pv 4) (pa_cons (pe_tyn (by rfl) B.tuple_ bb_tuple) pa_nil))))) (pw_or1 (pt_cmpR op_ne (pe_callB call_ln (by rfl) B.len bb_len (pa_cons (pv 4) pa_nil)) (pv 1) (nomark _))))) (pss_one (ps_ret pe_bl)) pss_nil)
    (pss_one (ps_if (pt_not (pt_val (pe_callB (cr_all rfl) (by rfl) B.all_ bb_all (pa_cons (pe_lc (own := [("state", 5)]) rfl nd (pi_tup (pv 4)) (blkOk_by (N := N_is_system) (sc := (defScope s_is_system)) (by decide +kernel)) (fun _ _ _ _ _ => (pg_name (i := 5) nd rfl (by first | exact Or.inl rfl | exact Or.inr rfl))) (fun _ _ _ _ _ => pts_nil) (fun _ _ _ _ _ => (pe_cal C_is_whole hr (by rfl) (pa_cons (pv 5) (pa_cons pe_int (pa_cons (pe_op op_sub (pv 1) pe_int) pa_nil)))))) pa_nil)))) (pss_one (ps_ret pe_bl)) pss_nil))))
    (pss_one (ps_ret pe_bl))))))
theorem cal_is_system {P : Program} {w : World} {K : PySem.W.Frag} {mg : PySem.Str → Option Value} {base : Heap} (D : DefAt K mg "is_system" s_is_system) (B : Bi mg) (C_is_whole : Cal P w K mg base "is_whole" 1 ["value", "low", "high"] spIsWhole)
    (len : ∀ vs H Q E, spIsSystem vs H Q E → vs.length = 1) (rd : ∀ vs H Q E, spIsSystem vs H Q E → t_is_system K { nx := fun _ H' => Q .non H', rt := Q } (start N_is_system vs) H) : Cal P w K mg base "is_system" 2 ["value"] spIsSystem :=
  cal_of D sc_is_system (fun _ _ _ _ _ _ us hl => match us, hl with | [_], _ => rfl) (fun f cdv A outer s H E hr => der_is_system B C_is_whole f cdv A outer s H E hr) len rd
abbrev N_is_state : List PySem.Str := ["system", "value"]
theorem sc_is_state : FnScope N_is_state ["system", "value"] (defScope s_is_state) := ⟨rfl, rfl, rfl, by decide +kernel, rfl, by decide +kernel, by decide +kernel⟩
def t_is_state (K : PySem.W.Frag) : TS := (tRet (tCall spIsWhole [] E0 (tCons (tVar 1) (tCons (tC (.int 0)) (tCons (tOp rSubI (tOp (rIxT K) (tVar 0) (tC (.int 0))) (tC (.int 1))) tNil)))))
theorem der_is_state {P : Program} {w : World} {K : PySem.W.Frag} {mg : PySem.Str → Option Value} {base : Heap} (B : Bi mg) (C_is_whole : Cal P w K mg base "is_whole" 1 ["value", "low", "high"] spIsWhole) (f : Addr) (cdv : Value) (A : Around) (outer : List Env) (s : Shared) (H : Hp) (E : XK)
    (hr : Room 1 (A.deeper (envOfC "is_state" (defScope s_is_state) s.heap.objs.size f cdv))) : PSs (cxOf CX0 P w K mg base N_is_state "is_state" (defScope s_is_state) f cdv A outer s H E).nox (defBody s_is_state) (t_is_state K) := by
  have nd : (N_is_state).Nodup := sc_is_state.nd
  exact (pss_one (ps_ret (pe_cal C_is_whole hr (by rfl) (pa_cons (pv 1) (pa_cons pe_int (pa_cons (pe_op op_sub (pe_ix ix_tup (pv 0) pe_int (fun _ _ => rfl)) pe_int) pa_nil))))))
theorem cal_is_state {P : Program} {w : World} {K : PySem.W.Frag} {mg : PySem.Str → Option Value} {base : Heap} (D : DefAt K mg "is_state" s_is_state) (B : Bi mg) (C_is_whole : Cal P w K mg base "is_whole" 1 ["value", "low", "high"] spIsWhole)
    (len : ∀ vs H Q E, spIsState vs H Q E → vs.length = 2) (rd : ∀ vs H Q E, spIsState vs H Q E → t_is_state K { nx := fun _ H' => Q .non H', rt := Q } (start N_is_state vs) H) : Cal P w K mg base "is_state" 2 ["system", "value"] spIsState :=
  cal_of D sc_is_state (fun _ _ _ _ _ _ us hl => match us, hl with | [_, _], _ => rfl) (fun f cdv A outer s H E hr => der_is_state B C_is_whole f cdv A outer s H E hr) len rd
abbrev N_is_command : List PySem.Str := ["system", "value"]
theorem sc_is_command : FnScope N_is_command ["system", "value"] (defScope s_is_command) := ⟨rfl, rfl, rfl, by decide +kernel, rfl, by decide +kernel, by decide +kernel⟩
def t_is_command (K : PySem.W.Frag) : TS := (tRet (tCall spIsWhole [] E0 (tCons (tVar 1) (tCons (tC (.int 0)) (tCons (tOp rSubI (tCB (rLn K) (tCons (tOp (rIxT K) (tVar 0) (tC (.int 2))) tNil)) (tC (.int 1))) tNil)))))
theorem der_is_command {P : Program} {w : World} {K : PySem.W.Frag} {mg : PySem.Str → Option Value} {base : Heap} (B : Bi mg) (C_is_whole : Cal P w K mg base "is_whole" 1 ["value", "low", "high"] spIsWhole) (f : Addr) (cdv : Value) (A : Around) (outer : List Env) (s : Shared) (H : Hp) (E : XK)
    (hr : Room 1 (A.deeper (envOfC "is_command" (defScope s_is_command) s.heap.objs.size f cdv))) : PSs (cxOf CX0 P w K mg base N_is_command "is_command" (defScope s_is_command) f cdv A outer s H E).nox (defBody s_is_command) (t_is_command K) := by
  have nd : (N_is_command).Nodup := sc_is_command.nd
  exact (pss_one (ps_ret (pe_cal C_is_whole hr (by rfl) (pa_cons (pv 1) (pa_cons pe_int (pa_cons (pe_op op_sub (pe_callB call_ln (by rfl) B.len bb_len (pa_cons (pe_ix ix_tup (pv 0) pe_int (fun _ _ => rfl)) pa_nil)) pe_int) pa_nil))))))
theorem cal_is_command {P : Program} {w : World} {K : PySem.W.Frag} {mg : PySem.Str → Option Value} {base : Heap} (D : DefAt K mg "is_command" s_is_command) (B : Bi mg) (C_is_whole : Cal P w K mg base "is_whole" 1 ["value", "low", "high"] spIsWhole)
    (len : ∀ vs H Q E, spIsCommand vs H Q E → vs.length = 2) (rd : ∀ vs H Q E, spIsCommand vs H Q E → t_is_command K { nx := fun _ H' => Q .non H', rt := Q } (start N_is_command vs) H) : Cal P w K mg base "is_command" 2 ["system", "value"] spIsCommand :=
  cal_of D sc_is_command (fun _ _ _ _ _ _ us hl => match us, hl with | [_, _], _ => rfl) (fun f cdv A outer s H E hr => der_is_command B C_is_whole f cdv A outer s H E hr) len rd
abbrev N_states_of : List PySem.Str := ["system"]
theorem sc_states_of : FnScope N_states_of ["system"] (defScope s_states_of) := ⟨rfl, rfl, rfl, by decide +kernel, rfl, by decide +kernel, by decide +kernel⟩
def t_states_of (K : PySem.W.Frag) : TS := (tRet (tLstRg (tRg1 (tOp (rIxT K) (tVar 0) (tC (.int 0))))))
theorem der_states_of {P : Program} {w : World} {K : PySem.W.Frag} {mg : PySem.Str → Option Value} {base : Heap} (B : Bi mg)  (f : Addr) (cdv : Value) (A : Around) (outer : List Env) (s : Shared) (H : Hp) (E : XK)
    (hr : Room 0 (A.deeper (envOfC "states_of" (defScope s_states_of) s.heap.objs.size f cdv))) : PSs (cxOf CX0 P w K mg base N_states_of "states_of" (defScope s_states_of) f cdv A outer s H E).nox (defBody s_states_of) (t_states_of K) := by
  have nd : (N_states_of).Nodup := sc_states_of.nd
  exact (pss_one (ps_ret (pe_listRg rfl (by rfl) B.list_ (prg_1 (by rfl) B.range (pe_ix ix_tup (pv 0) pe_int (fun _ _ => rfl))))))
theorem cal_states_of {P : Program} {w : World} {K : PySem.W.Frag} {mg : PySem.Str → Option Value} {base : Heap} (D : DefAt K mg "states_of" s_states_of) (B : Bi mg) 
    (len : ∀ vs H Q E, spStatesOf vs H Q E → vs.length = 1) (rd : ∀ vs H Q E, spStatesOf vs H Q E → t_states_of K { nx := fun _ H' => Q .non H', rt := Q } (start N_states_of vs) H) : Cal P w K mg base "states_of" 1 ["system"] spStatesOf :=
  cal_of D sc_states_of (fun _ _ _ _ _ _ us hl => match us, hl with | [_], _ => rfl) (fun f cdv A outer s H E hr => der_states_of B  f cdv A outer s H E hr) len rd
abbrev N_step : List PySem.Str := ["system", "state", "command"]
theorem sc_step : FnScope N_step ["system", "state", "command"] (defScope s_step) := ⟨rfl, rfl, rfl, by decide +kernel, rfl, by decide +kernel, by decide +kernel⟩
def t_step (K : PySem.W.Frag) : TS := (tRet (tOp (rIxT K) (tOp (rIxT K) (tOp (rIxT K) (tVar 0) (tC (.int 2))) (tVar 2)) (tVar 1)))
theorem der_step {P : Program} {w : World} {K : PySem.W.Frag} {mg : PySem.Str → Option Value} {base : Heap} (B : Bi mg)  (f : Addr) (cdv : Value) (A : Around) (outer : List Env) (s : Shared) (H : Hp) (E : XK)
    (hr : Room 0 (A.deeper (envOfC "step" (defScope s_step) s.heap.objs.size f cdv))) : PSs (cxOf CX0 P w K mg base N_step "step" (defScope s_step) f cdv A outer s H E).nox (defBody s_step) (t_step K) := by
  have nd : (N_step).Nodup := sc_step.nd
  exact (pss_one (ps_ret (pe_ix ix_tup (pe_ix ix_tup (pe_ix ix_tup (pv 0) pe_int (fun _ _ => rfl)) (pv 2) (fun _ _ => rfl)) (pv 1) (fun _ _ => rfl))))
theorem cal_step {P : Program} {w : World} {K : PySem.W.Frag} {mg : PySem.Str → Option Value} {base : Heap} (D : DefAt K mg "step" s_step) (B : Bi mg) 
    (len : ∀ vs H Q E, spStep vs H Q E → vs.length = 3) (rd : ∀ vs H Q E, spStep vs H Q E → t_step K { nx := fun _ H' => Q .non H', rt := Q } (start N_step vs) H) : Cal P w K mg base "step" 1 ["system", "state", "command"] spStep :=
  cal_of D sc_step (fun _ _ _ _ _ _ us hl => match us, hl with | [_, _, _], _ => rfl) (fun f cdv A outer s H E hr => der_step B  f cdv A outer s H E hr) len rd
abbrev N_check_action : List PySem.Str := ["system", "state", "command"]
theorem sc_check_action : FnScope N_check_action ["system", "state", "command"] (defScope s_check_action) := ⟨rfl, rfl, rfl, by decide +kernel, rfl, by decide +kernel, by decide +kernel⟩
def t_check_action (K : PySem.W.Frag) : TS := (tSeq (tIfS (tNot (tB (tCall spIsSystem [] E0 (tCons (tVar 0) tNil)))) tNever tNext)
  (tSeq (tIfS (tNot (tB (tCall spIsState [] E0 (tCons (tVar 0) (tCons (tVar 1) tNil))))) tNever tNext)
  (tIfS (tNot (tB (tCall spIsCommand [] E0 (tCons (tVar 0) (tCons (tVar 2) tNil))))) tNever tNext)))
theorem der_check_action {P : Program} {w : World} {K : PySem.W.Frag} {mg : PySem.Str → Option Value} {base : Heap} (B : Bi mg) (C_is_system : Cal P w K mg base "is_system" 2 ["value"] spIsSystem) (C_is_state : Cal P w K mg base "is_state" 2 ["system", "value"] spIsState) (C_is_command : Cal P w K mg base "is_command" 2 ["system", "value"] spIsCommand) (f : Addr) (cdv : Value) (A : Around) (outer : List Env) (s : Shared) (H : Hp) (E : XK)
    (hr : Room 2 (A.deeper (envOfC "check_action" (defScope s_check_action) s.heap.objs.size f cdv))) : PSs (cxOf CX0 P w K mg base N_check_action "check_action" (defScope s_check_action) f cdv A outer s H E).nox (defBody s_check_action) (t_check_action K) := by
  have nd : (N_check_action).Nodup := sc_check_action.nd
  exact (pss_cons (ps_if (pt_not (pt_val (pe_cal C_is_system hr (by rfl) (pa_cons (pv 0) pa_nil)))) (pss_one ps_never) pss_nil)
    (pss_cons (ps_if (pt_not (pt_val (pe_cal C_is_state hr (by rfl) (pa_cons (pv 0) (pa_cons (pv 1) pa_nil))))) (pss_one ps_never) pss_nil)
    (pss_one (ps_if (pt_not (pt_val (pe_cal C_is_command hr (by rfl) (pa_cons (pv 0) (pa_cons (pv 2) pa_nil))))) (pss_one ps_never) pss_nil))))
theorem cal_check_action {P : Program} {w : World} {K : PySem.W.Frag} {mg : PySem.Str → Option Value} {base : Heap} (D : DefAt K mg "check_action" s_check_action) (B : Bi mg) (C_is_system : Cal P w K mg base "is_system" 2 ["value"] spIsSystem) (C_is_state : Cal P w K mg base "is_state" 2 ["system", "value"] spIsState) (C_is_command : Cal P w K mg base "is_command" 2 ["system", "value"] spIsCommand)
    (len : ∀ vs H Q E, spCheckAction vs H Q E → vs.length = 3) (rd : ∀ vs H Q E, spCheckAction vs H Q E → t_check_action K { nx := fun _ H' => Q .non H', rt := Q } (start N_check_action vs) H) : Cal P w K mg base "check_action" 3 ["system", "state", "command"] spCheckAction :=
  cal_of D sc_check_action (fun _ _ _ _ _ _ us hl => match us, hl with | [_, _, _], _ => rfl) (fun f cdv A outer s H E hr => der_check_action B C_is_system C_is_state C_is_command f cdv A outer s H E hr) len rd
abbrev N_is_index : List PySem.Str := ["value", "count"]
theorem sc_is_index : FnScope N_is_index ["value", "count"] (defScope s_is_index) := ⟨rfl, rfl, rfl, by decide +kernel, rfl, by decide +kernel, by decide +kernel⟩
def t_is_index (K : PySem.W.Frag) : TS := (tRet (tAndV (tCB (rIsi K) (tCons (tVar 0) (tCons (tC (.ty "int")) tNil))) (tAndV (tNotV (tCB (rIsi K) (tCons (tVar 0) (tCons (tC (.ty "bool")) tNil)))) (tChain rLeI rLtI (tC (.int 0)) (tVar 0) (tVar 1)))))
theorem der_is_index {P : Program} {w : World} {K : PySem.W.Frag} {mg : PySem.Str → Option Value} {base : Heap} (B : Bi mg)  (f : Addr) (cdv : Value) (A : Around) (outer : List Env) (s : Shared) (H : Hp) (E : XK)
    (hr : Room 0 (A.deeper (envOfC "is_index" (defScope s_is_index) s.heap.objs.size f cdv))) : PSs (cxOf CX0 P w K mg base N_is_index "is_index" (defScope s_is_index) f cdv A outer s H E).nox (defBody s_is_index) (t_is_index K) := by
  have nd : (N_is_index).Nodup := sc_is_index.nd
  exact (pss_one (ps_ret (pe_and (pe_callB call_isi (by rfl) B.isinstance bb_isi (pa_cons (pv 0) (pa_cons (pe_tyn (by rfl) B.int_ bb_int) pa_nil))) (pe_and (pe_not (pe_callB call_isi (by rfl) B.isinstance bb_isi (pa_cons (pv 0) (pa_cons (pe_tyn (by rfl) B.bool_ bb_bool) pa_nil)))) (pe_one (pe_chain op_le op_lt pe_int (pv 0) (pv 1)))))))
theorem cal_is_index {P : Program} {w : World} {K : PySem.W.Frag} {mg : PySem.Str → Option Value} {base : Heap} (D : DefAt K mg "is_index" s_is_index) (B : Bi mg) 
    (len : ∀ vs H Q E, spIsIndex vs H Q E → vs.length = 2) (rd : ∀ vs H Q E, spIsIndex vs H Q E → t_is_index K { nx := fun _ H' => Q .non H', rt := Q } (start N_is_index vs) H) : Cal P w K mg base "is_index" 1 ["value", "count"] spIsIndex :=
  cal_of D sc_is_index (fun _ _ _ _ _ _ us hl => match us, hl with | [_, _], _ => rfl) (fun f cdv A outer s H E hr => der_is_index B  f cdv A outer s H E hr) len rd
abbrev N_is_row : List PySem.Str := ["value", "size"]
theorem sc_is_row : FnScope N_is_row ["value", "size"] (defScope s_is_row) := ⟨rfl, rfl, rfl, by decide +kernel, rfl, by decide +kernel, by decide +kernel⟩
def t_is_row (K : PySem.W.Frag) : TS := (tRet (tAndV (tCB (rIsi K) (tCons (tVar 0) (tCons (tC (.ty "tuple")) tNil))) (tOp rEq (tCB (rLn K) (tCons (tVar 0) tNil)) (tVar 1))))
theorem der_is_row {P : Program} {w : World} {K : PySem.W.Frag} {mg : PySem.Str → Option Value} {base : Heap} (B : Bi mg)  (f : Addr) (cdv : Value) (A : Around) (outer : List Env) (s : Shared) (H : Hp) (E : XK)
    (hr : Room 0 (A.deeper (envOfC "is_row" (defScope s_is_row) s.heap.objs.size f cdv))) : PSs (cxOf CX0 P w K mg base N_is_row "is_row" (defScope s_is_row) f cdv A outer s H E).nox (defBody s_is_row) (t_is_row K) := by
  have nd : (N_is_row).Nodup := sc_is_row.nd
  exact (pss_one (ps_ret (pe_and (pe_callB call_isi (by rfl) B.isinstance bb_isi (pa_cons (pv 0) (pa_cons (pe_tyn (by rfl) B.tuple_ bb_tuple) pa_nil))) (pe_one (pe_cmpR op_eq (pe_callB call_ln (by rfl) B.len bb_len (pa_cons (pv 0) pa_nil)) (pv 1) (nomark _))))))
theorem cal_is_row {P : Program} {w : World} {K : PySem.W.Frag} {mg : PySem.Str → Option Value} {base : Heap} (D : DefAt K mg "is_row" s_is_row) (B : Bi mg) 
    (len : ∀ vs H Q E, spIsRow vs H Q E → vs.length = 2) (rd : ∀ vs H Q E, spIsRow vs H Q E → t_is_row K { nx := fun _ H' => Q .non H', rt := Q } (start N_is_row vs) H) : Cal P w K mg base "is_row" 1 ["value", "size"] spIsRow :=
  cal_of D sc_is_row (fun _ _ _ _ _ _ us hl => match us, hl with | [_, _], _ => rfl) (fun f cdv A outer s H E hr => der_is_row B  f cdv A outer s H E hr) len rd
abbrev N_are_nexts : List PySem.Str := ["value", "many", "commands", "row", "note"]
theorem sc_are_nexts : FnScope N_are_nexts ["value", "many", "commands"] (defScope s_are_nexts) := ⟨rfl, rfl, rfl, by decide +kernel, rfl, by decide +kernel, by decide +kernel⟩
def t_are_nexts (K : PySem.W.Frag) : TS := (tSeq (tIfS (tOr (tNot (tB (tCall spIsRow [] E0 (tCons (tVar 0) (tCons (tVar 1) tNil))))) (tNot (tB (tCB (rAll K) (tCons (tLc (iTup K (tVar 0)) (gName 3) tYes (tCall spIsRow [] E0 (tCons (tVar 3) (tCons (tVar 2) tNil))) [3]) tNil))))) (tRet (tC (.bl false))) tNext)
  (tRet (tCB (rAll K) (tCons (tLc (iTup K (tVar 0)) (gName 3) tYes (tCB (rAll K) (tCons (tLc (iTup K (tVar 3)) (gName 4) tYes (tCall spIsIndex [] E0 (tCons (tVar 4) (tCons (tVar 1) tNil))) [4]) tNil)) [3]) tNil))))
theorem der_are_nexts {P : Program} {w : World} {K : PySem.W.Frag} {mg : PySem.Str → Option Value} {base : Heap} (B : Bi mg) (C_is_row : Cal P w K mg base "is_row" 1 ["value", "size"] spIsRow) (C_is_index : Cal P w K mg base "is_index" 1 ["value", "count"] spIsIndex) (f : Addr) (cdv : Value) (A : Around) (outer : List Env) (s : Shared) (H : Hp) (E : XK)
    (hr : Room 1 (A.deeper (envOfC "are_nexts" (defScope s_are_nexts) s.heap.objs.size f cdv))) : PSs (cxOf CX0 P w K mg base N_are_nexts "are_nexts" (defScope s_are_nexts) f cdv A outer s H E).nox (defBody s_are_nexts) (t_are_nexts K) := by
  have nd : (N_are_nexts).Nodup := sc_are_nexts.nd
  exact (pss_cons (ps_if (PW.pt (pw_or (pt_not (pt_val (pe_cal C_is_row hr (by rfl) (pa_cons (pv 0) (pa_cons (pv 1) pa_nil))))) (pw_or1 (pt_not (pt_val (pe_callB (cr_all rfl) (by rfl) B.all_ bb_all (pa_cons (pe_lc (own := [("row", 3)]) rfl nd (pi_tup (pv 0)) (blkOk_by (N := N_are_nexts) (sc := (defScope s_are_nexts)) (by decide +kernel)) (fun _ _ _ _ _ => (pg_name (i := 3) nd rfl (by first | exact Or.inl rfl | exact Or.inr rfl))) (fun _ _ _ _ _ => pts_nil) (fun _ _ _ _ _ => (pe_cal C_is_row hr (by rfl) (pa_cons (pv 3) (pa_cons (pv 2) pa_nil))))) pa_nil))))))) (pss_one (ps_ret pe_bl)) pss_nil)
    (pss_one (ps_ret (pe_callB (cr_all rfl) (by rfl) B.all_ bb_all (pa_cons (pe_lc (own := [("row", 3)]) rfl nd (pi_tup (pv 0)) (blkOk_by (N := N_are_nexts) (sc := (defScope s_are_nexts)) (by decide +kernel)) (fun _ _ _ _ _ => (pg_name (i := 3) nd rfl (by first | exact Or.inl rfl | exact Or.inr rfl))) (fun _ _ _ _ _ => pts_nil) (fun _ _ _ _ _ => (pe_callB (cr_all rfl) (by rfl) B.all_ bb_all (pa_cons (pe_lc (own := [("note", 4)]) rfl nd (pi_tup (pv 3)) (blkOk_by (N := N_are_nexts) (sc := (relS _ (defScope s_are_nexts))) (by decide +kernel)) (fun _ _ _ _ _ => (pg_name (i := 4) nd rfl (by first | exact Or.inl rfl | exact Or.inr rfl))) (fun _ _ _ _ _ => pts_nil) (fun _ _ _ _ _ => (pe_cal C_is_index hr (by rfl) (pa_cons (pv 4) (pa_cons (pv 1) pa_nil))))) pa_nil)))) pa_nil)))))
theorem cal_are_nexts {P : Program} {w : World} {K : PySem.W.Frag} {mg : PySem.Str → Option Value} {base : Heap} (D : DefAt K mg "are_nexts" s_are_nexts) (B : Bi mg) (C_is_row : Cal P w K mg base "is_row" 1 ["value", "size"] spIsRow) (C_is_index : Cal P w K mg base "is_index" 1 ["value", "count"] spIsIndex)
    (len : ∀ vs H Q E, spAreNexts vs H Q E → vs.length = 3) (rd : ∀ vs H Q E, spAreNexts vs H Q E → t_are_nexts K { nx := fun _ H' => Q .non H', rt := Q } (start N_are_nexts vs) H) : Cal P w K mg base "are_nexts" 2 ["value", "many", "commands"] spAreNexts :=
  cal_of D sc_are_nexts (fun _ _ _ _ _ _ us hl => match us, hl with | [_, _, _], _ => rfl) (fun f cdv A outer s H E hr => der_are_nexts B C_is_row C_is_index f cdv A outer s H E hr) len rd
abbrev N_is_rule : List PySem.Str := ["system", "value", "states", "commands", "many", "row", "state"]
theorem sc_is_rule : FnScope N_is_rule ["system", "value"] (defScope s_is_rule) := ⟨rfl, rfl, rfl, by decide +kernel, rfl, by decide +kernel, by decide +kernel⟩
def t_is_rule (K : PySem.W.Frag) : TS := (tSeq (tAsg (tTup (tCons (tOp (rIxT K) (tVar 0) (tC (.int 0))) (tCons (tCB (rLn K) (tCons (tOp (rIxT K) (tVar 0) (tC (.int 2))) tNil)) tNil))) (gTup K 2 (gCons (gName 2) (gCons (gName 3) gNil))))
  (tSeq (tIfS (tOr (tNot (tB (tCall spIsRow [] E0 (tCons (tVar 1) (tCons (tC (.int 3)) tNil))))) (tOr (tNot (tB (tCall spIsRow [] E0 (tCons (tOp (rIxT K) (tVar 1) (tC (.int 1))) (tCons (tVar 2) tNil))))) (tNot (tB (tCall spIsRow [] E0 (tCons (tOp (rIxT K) (tVar 1) (tC (.int 2))) (tCons (tVar 2) tNil))))))) (tRet (tC (.bl false))) tNext)
  (tSeq (tIfS (tOr (tNot (tB (tCB (rIsi K) (tCons (tOp (rIxT K) (tOp (rIxT K) (tVar 1) (tC (.int 1))) (tC (.int 0))) (tCons (tC (.ty "tuple")) tNil))))) (tNot (tTest (tChain rLeI rLeI (tC (.int 1)) (tCB (rLn K) (tCons (tOp (rIxT K) (tOp (rIxT K) (tVar 1) (tC (.int 1))) (tC (.int 0))) tNil)) (tC (.int 8)))))) (tRet (tC (.bl false))) tNext)
  (tSeq (tAsg (tCB (rLn K) (tCons (tOp (rIxT K) (tOp (rIxT K) (tVar 1) (tC (.int 1))) (tC (.int 0))) tNil)) (gName 4))
  (tSeq (tIfS (tNot (tB (tCall spIsIndex [] E0 (tCons (tOp (rIxT K) (tVar 1) (tC (.int 0))) (tCons (tVar 4) tNil))))) (tRet (tC (.bl false))) tNext)
  (tSeq (tFor (iTup K (tOp (rIxT K) (tVar 1) (tC (.int 1)))) (gName 5) (tIfS (tOr (tNot (tB (tCall spIsRow [] E0 (tCons (tVar 5) (tCons (tVar 4) tNil))))) (tNot (tB (tCB (rAll K) (tCons (tLc (iTup K (tVar 5)) (gName 6) tYes (tCall spIsIndex [] E0 (tCons (tVar 6) (tCons (tVar 2) tNil))) [6]) tNil))))) (tRet (tC (.bl false))) tNext))
  (tRet (tCB (rAll K) (tCons (tLc (iTup K (tOp (rIxT K) (tVar 1) (tC (.int 2)))) (gName 5) tYes (tCall spAreNexts [] E0 (tCons (tVar 5) (tCons (tVar 4) (tCons (tVar 3) tNil)))) [5]) tNil)))))))))
theorem der_is_rule {P : Program} {w : World} {K : PySem.W.Frag} {mg : PySem.Str → Option Value} {base : Heap} (B : Bi mg) (C_is_row : Cal P w K mg base "is_row" 1 ["value", "size"] spIsRow) (C_is_index : Cal P w K mg base "is_index" 1 ["value", "count"] spIsIndex) (C_are_nexts : Cal P w K mg base "are_nexts" 2 ["value", "many", "commands"] spAreNexts) (f : Addr) (cdv : Value) (A : Around) (outer : List Env) (s : Shared) (H : Hp) (E : XK)
    (hr : Room 2 (A.deeper (envOfC "is_rule" (defScope s_is_rule) s.heap.objs.size f cdv))) : PSs (cxOf CX0 P w K mg base N_is_rule "is_rule" (defScope s_is_rule) f cdv A outer s H E).nox (defBody s_is_rule) (t_is_rule K) := by
  have nd : (N_is_rule).Nodup := sc_is_rule.nd
  exact (pss_cons (ps_asg (pe_tup (pa_cons (pe_ix ix_tup (pv 0) pe_int (fun _ _ => rfl)) (pa_cons (pe_callB call_ln (by rfl) B.len bb_len (pa_cons (pe_ix ix_tup (pv 0) pe_int (fun _ _ => rfl)) pa_nil)) pa_nil))) (pg_tup (by rfl) (pgs_cons (pg_name (i := 2) nd rfl (by first | exact Or.inl rfl | exact Or.inr rfl)) (pgs_cons (pg_name (i := 3) nd rfl (by first | exact Or.inl rfl | exact Or.inr rfl)) pgs_nil))))
    (pss_cons (ps_if (PW.pt (pw_or (pt_not (pt_val (pe_cal C_is_row (hr.mono (by decide)) (by rfl) (pa_cons (pv 1) (pa_cons pe_int pa_nil))))) (pw_or (pt_not (pt_val (pe_cal C_is_row (hr.mono (by decide)) (by rfl) (pa_cons (pe_ix ix_tup (pv 1) pe_int (fun _ _ => rfl)) (pa_cons (pv 2) pa_nil))))) (pw_or1 (pt_not (pt_val (pe_cal C_is_row (hr.mono (by decide)) (by rfl) (pa_cons (pe_ix ix_tup (pv 1) pe_int (fun _ _ => rfl)) (pa_cons (pv 2) pa_nil))))))))) (pss_one (ps_ret pe_bl)) pss_nil)
    (pss_cons (ps_if (PW.pt (pw_or (pt_not (pt_val (pe_callB call_isi (by rfl) B.isinstance bb_isi (pa_cons (pe_ix ix_tup (pe_ix ix_tup (pv 1) pe_int (fun _ _ => rfl)) pe_int (fun _ _ => rfl)) (pa_cons (pe_tyn (by rfl) B.tuple_ bb_tuple) pa_nil))))) (pw_or1 (pt_not (pt_chain op_le op_le pe_int (pe_callB call_ln (by rfl) B.len bb_len (pa_cons (pe_ix ix_tup (pe_ix ix_tup (pv 1) pe_int (fun _ _ => rfl)) pe_int (fun _ _ => rfl)) pa_nil)) (pe_gint (by rfl) B.mn)))))) (pss_one (ps_ret pe_bl)) pss_nil)
    (pss_cons (ps_set (i := 4) nd rfl (by first | exact Or.inl rfl | exact Or.inr rfl) (pe_callB call_ln (by rfl) B.len bb_len (pa_cons (pe_ix ix_tup (pe_ix ix_tup (pv 1) pe_int (fun _ _ => rfl)) pe_int (fun _ _ => rfl)) pa_nil)))
    (pss_cons (ps_if (pt_not (pt_val (pe_cal C_is_index (hr.mono (by decide)) (by rfl) (pa_cons (pe_ix ix_tup (pv 1) pe_int (fun _ _ => rfl)) (pa_cons (pv 4) pa_nil))))) (pss_one (ps_ret pe_bl)) pss_nil)
    (pss_cons (ps_for PassesOwn.never rfl (pi_tup (pe_ix ix_tup (pv 1) pe_int (fun _ _ => rfl))) (pg_name (i := 5) nd rfl (by first | exact Or.inl rfl | exact Or.inr rfl)) (pss_one (ps_if (PW.pt (pw_or (pt_not (pt_val (pe_cal C_is_row (hr.mono (by decide)) (by rfl) (pa_cons (pv 5) (pa_cons (pv 4) pa_nil))))) (pw_or1 (pt_not (pt_val (pe_callB (cr_all rfl) (by rfl) B.all_ bb_all (pa_cons (pe_lc (own := [("state", 6)]) rfl nd (pi_tup (pv 5)) (blkOk_by (N := N_is_rule) (sc := (defScope s_is_rule)) (by decide +kernel)) (fun _ _ _ _ _ => (pg_name (i := 6) nd rfl (by first | exact Or.inl rfl | exact Or.inr rfl))) (fun _ _ _ _ _ => pts_nil) (fun _ _ _ _ _ => (pe_cal C_is_index (hr.mono (by decide)) (by rfl) (pa_cons (pv 6) (pa_cons (pv 2) pa_nil))))) pa_nil))))))) (pss_one (ps_ret pe_bl)) pss_nil)))
    (pss_one (ps_ret (pe_callB (cr_all rfl) (by rfl) B.all_ bb_all (pa_cons (pe_lc (own := [("row", 5)]) rfl nd (pi_tup (pe_ix ix_tup (pv 1) pe_int (fun _ _ => rfl))) (blkOk_by (N := N_is_rule) (sc := (defScope s_is_rule)) (by decide +kernel)) (fun _ _ _ _ _ => (pg_name (i := 5) nd rfl (by first | exact Or.inl rfl | exact Or.inr rfl))) (fun _ _ _ _ _ => pts_nil) (fun _ _ _ _ _ => (pe_cal C_are_nexts hr (by rfl) (pa_cons (pv 5) (pa_cons (pv 4) (pa_cons (pv 3) pa_nil)))))) pa_nil))))))))))
theorem cal_is_rule {P : Program} {w : World} {K : PySem.W.Frag} {mg : PySem.Str → Option Value} {base : Heap} (D : DefAt K mg "is_rule" s_is_rule) (B : Bi mg) (C_is_row : Cal P w K mg base "is_row" 1 ["value", "size"] spIsRow) (C_is_index : Cal P w K mg base "is_index" 1 ["value", "count"] spIsIndex) (C_are_nexts : Cal P w K mg base "are_nexts" 2 ["value", "many", "commands"] spAreNexts)
    (len : ∀ vs H Q E, spIsRule vs H Q E → vs.length = 2) (rd : ∀ vs H Q E, spIsRule vs H Q E → t_is_rule K { nx := fun _ H' => Q .non H', rt := Q } (start N_is_rule vs) H) : Cal P w K mg base "is_rule" 3 ["system", "value"] spIsRule :=
  cal_of D sc_is_rule (fun _ _ _ _ _ _ us hl => match us, hl with | [_, _], _ => rfl) (fun f cdv A outer s H E hr => der_is_rule B C_is_row C_is_index C_are_nexts f cdv A outer s H E hr) len rd
end Ub
set_option maxHeartbeats 8000000
/-! UbDerB: readings and derivations, printed by gen_der.py. -/
namespace Ub
open PySem PySem.Spec PyProof.Rows L2
abbrev N_pairs_from : List PySem.Str := ["system", "one", "other", "found", "waiting", "fresh", "pair", "command", "later"]
theorem sc_pairs_from : FnScope N_pairs_from ["system", "one", "other"] (defScope s_pairs_from) := ⟨rfl, rfl, rfl, by decide +kernel, rfl, by decide +kernel, by decide +kernel⟩
def t_pairs_from (K : PySem.W.Frag) : TS := (tSeq (tAsg (tDispT (tTup (tCons (tVar 1) (tCons (tVar 2) tNil))) (tTup tNil)) (gName 3))
  (tSeq (tAsg (tLst (tCons (tTup (tCons (tVar 1) (tCons (tVar 2) tNil))) tNil)) (gName 4))
  (tSeq (tWhile (tTru K (tVar 4)) (tSeq (tAsg (tLst tNil) (gName 5))
  (tSeq (tFor (iList K (tVar 4)) (gName 6) (tFor (iRng1 (tCons (tCB (rLn K) (tCons (tOp (rIxT K) (tVar 0) (tC (.int 2))) tNil)) tNil)) (gName 7) (tSeq (tAsg (tTup (tCons (tCall spStep [] E0 (tCons (tVar 0) (tCons (tOp (rIxT K) (tVar 6) (tC (.int 0))) (tCons (tVar 7) tNil)))) (tCons (tCall spStep [] E0 (tCons (tVar 0) (tCons (tOp (rIxT K) (tVar 6) (tC (.int 1))) (tCons (tVar 7) tNil)))) tNil))) (gName 8))
  (tIfS (tB (tDNotIn (tVar 8) (tVar 3))) (tSeq (sDPut (tVar 3) (tVar 8) (tOp (rCatA K) (tDGet (tVar 3) (tVar 6)) (tTup (tCons (tVar 7) tNil))))
  (tDrop (tBM K "list" rAppend (tVar 5) (tCons (tVar 8) tNil)))) tNext))))
  (tAsg (tVar 5) (gName 4)))))
  (tRet (tVar 3)))))
theorem der_pairs_from {P : Program} {w : World} {K : PySem.W.Frag} {mg : PySem.Str → Option Value} {base : Heap} (B : Bi mg) (C_step : Cal P w K mg base "step" 1 ["system", "state", "command"] spStep) (f : Addr) (cdv : Value) (A : Around) (outer : List Env) (s : Shared) (H : Hp) (E : XK)
    (hr : Room 1 (A.deeper (envOfC "pairs_from" (defScope s_pairs_from) s.heap.objs.size f cdv))) : PSs (cxOf CX0 P w K mg base N_pairs_from "pairs_from" (defScope s_pairs_from) f cdv A outer s H E).nox (defBody s_pairs_from) (t_pairs_from K) := by
  have nd : (N_pairs_from).Nodup := sc_pairs_from.nd
  exact (pss_cons (ps_set (i := 3) nd rfl (by first | exact Or.inl rfl | exact Or.inr rfl) (pe_dispT (hu_of hr) (pe_tup (pa_cons (pv 1) (pa_cons (pv 2) pa_nil))) (pe_tup pa_nil)))
    (pss_cons (ps_set (i := 4) nd rfl (by first | exact Or.inl rfl | exact Or.inr rfl) (pe_lst (pa_cons (pe_tup (pa_cons (pv 1) (pa_cons (pv 2) pa_nil))) pa_nil)))
    (pss_cons (ps_while PassesOwn.never (pt_tru (pv 4)) (pss_cons (ps_set (i := 5) nd rfl (by first | exact Or.inl rfl | exact Or.inr rfl) (pe_lst pa_nil))
    (pss_cons (ps_for PassesOwn.never rfl (pi_list (pv 4)) (pg_name (i := 6) nd rfl (by first | exact Or.inl rfl | exact Or.inr rfl)) (pss_one (ps_for PassesOwn.never rfl (pi_range1 (by rfl) B.range (pa_cons (pe_callB call_ln (by rfl) B.len bb_len (pa_cons (pe_ix ix_tup (pv 0) pe_int (fun _ _ => rfl)) pa_nil)) pa_nil)) (pg_name (i := 7) nd rfl (by first | exact Or.inl rfl | exact Or.inr rfl)) (pss_cons (ps_set (i := 8) nd rfl (by first | exact Or.inl rfl | exact Or.inr rfl) (pe_tup (pa_cons (pe_cal C_step hr (by rfl) (pa_cons (pv 0) (pa_cons (pe_ix ix_tup (pv 6) pe_int (fun _ _ => rfl)) (pa_cons (pv 7) pa_nil)))) (pa_cons (pe_cal C_step hr (by rfl) (pa_cons (pv 0) (pa_cons (pe_ix ix_tup (pv 6) pe_int (fun _ _ => rfl)) (pa_cons (pv 7) pa_nil)))) pa_nil))))
    (pss_one (ps_if (pt_cmp (pc_dnotin (hu_of hr) (pv 8) (pv 3)) (by rfl)) (pss_cons (ps_dput (hu_of hr) (pv 3) (pv 8) (pe_op op_catA (pe_dget (hu_of hr) (pv 3) (pv 6) (fun _ _ => rfl)) (pe_tup (pa_cons (pv 7) pa_nil))) rfl)
    (pss_one (ps_expr (pe_bm PySem.F.plainAttrs_list PySem.F.slot_list_append PySem.F.type_list_append mt_append (pv 5) (pa_cons (pv 8) pa_nil))))) pss_nil))))))
    (pss_one (ps_set (i := 4) nd rfl (by first | exact Or.inl rfl | exact Or.inr rfl) (pv 5))))))
    (pss_one (ps_ret (pv 3))))))
theorem cal_pairs_from {P : Program} {w : World} {K : PySem.W.Frag} {mg : PySem.Str → Option Value} {base : Heap} (D : DefAt K mg "pairs_from" s_pairs_from) (B : Bi mg) (C_step : Cal P w K mg base "step" 1 ["system", "state", "command"] spStep)
    (len : ∀ vs H Q E, spPairsFrom vs H Q E → vs.length = 3) (rd : ∀ vs H Q E, spPairsFrom vs H Q E → t_pairs_from K { nx := fun _ H' => Q .non H', rt := Q } (start N_pairs_from vs) H) : Cal P w K mg base "pairs_from" 2 ["system", "one", "other"] spPairsFrom :=
  cal_of D sc_pairs_from (fun _ _ _ _ _ _ us hl => match us, hl with | [_, _, _], _ => rfl) (fun f cdv A outer s H E hr => der_pairs_from B C_step f cdv A outer s H E hr) len rd
abbrev N_counterparts_of : List PySem.Str := ["system", "one", "other", "found", "state", "first", "second"]
theorem sc_counterparts_of : FnScope N_counterparts_of ["system", "one", "other"] (defScope s_counterparts_of) := ⟨rfl, rfl, rfl, by decide +kernel, rfl, by decide +kernel, by decide +kernel⟩
def t_counterparts_of (K : PySem.W.Frag) : TS := (tSeq (tAsg (tCB rSortedD (tCons (tCall spPairsFrom [] E0 (tCons (tVar 0) (tCons (tVar 1) (tCons (tVar 2) tNil)))) tNil)) (gName 3))
  (tRet (tLc (iList K (tCall spStatesOf [] E0 (tCons (tVar 0) tNil))) (gName 4) tYes (tCB (rTupOf K) (tCons (tLc (iList K (tVar 3)) (gTup K 2 (gCons (gName 5) (gCons (gName 6) gNil))) (tTest (tOp rEq (tVar 5) (tVar 4))) (tVar 6) [5, 6]) tNil)) [4])))
theorem der_counterparts_of {P : Program} {w : World} {K : PySem.W.Frag} {mg : PySem.Str → Option Value} {base : Heap} (B : Bi mg) (C_pairs_from : Cal P w K mg base "pairs_from" 2 ["system", "one", "other"] spPairsFrom) (C_states_of : Cal P w K mg base "states_of" 1 ["system"] spStatesOf) (f : Addr) (cdv : Value) (A : Around) (outer : List Env) (s : Shared) (H : Hp) (E : XK)
    (hr : Room 2 (A.deeper (envOfC "counterparts_of" (defScope s_counterparts_of) s.heap.objs.size f cdv))) : PSs (cxOf CX0 P w K mg base N_counterparts_of "counterparts_of" (defScope s_counterparts_of) f cdv A outer s H E).nox (defBody s_counterparts_of) (t_counterparts_of K) := by
  have nd : (N_counterparts_of).Nodup := sc_counterparts_of.nd
  exact (pss_cons (ps_set (i := 3) nd rfl (by first | exact Or.inl rfl | exact Or.inr rfl) (pe_callB (cr_sortedD rfl) (by rfl) B.sorted_ bb_sorted (pa_cons (pe_cal C_pairs_from hr (by rfl) (pa_cons (pv 0) (pa_cons (pv 1) (pa_cons (pv 2) pa_nil)))) pa_nil)))
    (pss_one (ps_ret (pe_lc (own := [("state", 4)]) rfl nd (pi_list (pe_cal C_states_of (hr.mono (by decide)) (by rfl) (pa_cons (pv 0) pa_nil))) (blkOk_by (N := N_counterparts_of) (sc := (defScope s_counterparts_of)) (by decide +kernel)) (fun _ _ _ _ _ => (pg_name (i := 4) nd rfl (by first | exact Or.inl rfl | exact Or.inr rfl))) (fun _ _ _ _ _ => pts_nil) (fun _ _ _ _ _ => (pe_callTy call_tof (by rfl) B.tuple_ bb_tuple (pa_cons (pe_lc (own := [("first", 5), ("second", 6)]) rfl nd (pi_list (pv 3)) (blkOk_by (N := N_counterparts_of) (sc := (relS _ (defScope s_counterparts_of))) (by decide +kernel)) (fun _ _ _ _ _ => (pg_tup (by rfl) (pgs_cons (pg_name (i := 5) nd rfl (by first | exact Or.inl rfl | exact Or.inr rfl)) (pgs_cons (pg_name (i := 6) nd rfl (by first | exact Or.inl rfl | exact Or.inr rfl)) pgs_nil)))) (fun _ _ _ _ _ => (pts_one (pt_cmpR op_eq (pv 5) (pv 4) (nomark _)))) (fun _ _ _ _ _ => (pv 6))) pa_nil)))))))
theorem cal_counterparts_of {P : Program} {w : World} {K : PySem.W.Frag} {mg : PySem.Str → Option Value} {base : Heap} (D : DefAt K mg "counterparts_of" s_counterparts_of) (B : Bi mg) (C_pairs_from : Cal P w K mg base "pairs_from" 2 ["system", "one", "other"] spPairsFrom) (C_states_of : Cal P w K mg base "states_of" 1 ["system"] spStatesOf)
    (len : ∀ vs H Q E, spCounterpartsOf vs H Q E → vs.length = 3) (rd : ∀ vs H Q E, spCounterpartsOf vs H Q E → t_counterparts_of K { nx := fun _ H' => Q .non H', rt := Q } (start N_counterparts_of vs) H) : Cal P w K mg base "counterparts_of" 3 ["system", "one", "other"] spCounterpartsOf :=
  cal_of D sc_counterparts_of (fun _ _ _ _ _ _ us hl => match us, hl with | [_, _, _], _ => rfl) (fun f cdv A outer s H E hr => der_counterparts_of B C_pairs_from C_states_of f cdv A outer s H E hr) len rd
abbrev N_notes_of : List PySem.Str := ["system", "state", "command", "found", "row"]
theorem sc_notes_of : FnScope N_notes_of ["system", "state", "command"] (defScope s_notes_of) := ⟨rfl, rfl, rfl, by decide +kernel, rfl, by decide +kernel, by decide +kernel⟩
def t_notes_of (K : PySem.W.Frag) : TS := (tSeq (tAsg (tCall spCounterpartsOf [] E0 (tCons (tVar 0) (tCons (tCall spStep [] E0 (tCons (tVar 0) (tCons (tVar 1) (tCons (tVar 2) tNil)))) (tCons (tVar 1) tNil)))) (gName 3))
  (tRet (tTup (tCons (tVar 3) (tCons (tCB (rMax K) (tCons (tLc (iList K (tVar 3)) (gName 4) tYes (tCB (rLn K) (tCons (tVar 4) tNil)) [4]) tNil)) tNil)))))
theorem der_notes_of {P : Program} {w : World} {K : PySem.W.Frag} {mg : PySem.Str → Option Value} {base : Heap} (B : Bi mg) (C_counterparts_of : Cal P w K mg base "counterparts_of" 3 ["system", "one", "other"] spCounterpartsOf) (C_step : Cal P w K mg base "step" 1 ["system", "state", "command"] spStep) (f : Addr) (cdv : Value) (A : Around) (outer : List Env) (s : Shared) (H : Hp) (E : XK)
    (hr : Room 3 (A.deeper (envOfC "notes_of" (defScope s_notes_of) s.heap.objs.size f cdv))) : PSs (cxOf CX0 P w K mg base N_notes_of "notes_of" (defScope s_notes_of) f cdv A outer s H E).nox (defBody s_notes_of) (t_notes_of K) := by
  have nd : (N_notes_of).Nodup := sc_notes_of.nd
  exact (pss_cons (ps_set (i := 3) nd rfl (by first | exact Or.inl rfl | exact Or.inr rfl) (pe_cal C_counterparts_of hr (by rfl) (pa_cons (pv 0) (pa_cons (pe_cal C_step (hr.mono (by decide)) (by rfl) (pa_cons (pv 0) (pa_cons (pv 1) (pa_cons (pv 2) pa_nil)))) (pa_cons (pv 1) pa_nil)))))
    (pss_one (ps_ret (pe_tup (pa_cons (pv 3) (pa_cons (pe_callB (cr_max rfl) (by rfl) B.max_ bb_max (pa_cons (pe_lc (own := [("row", 4)]) rfl nd (pi_list (pv 3)) (blkOk_by (N := N_notes_of) (sc := (defScope s_notes_of)) (by decide +kernel)) (fun _ _ _ _ _ => (pg_name (i := 4) nd rfl (by first | exact Or.inl rfl | exact Or.inr rfl))) (fun _ _ _ _ _ => pts_nil) (fun _ _ _ _ _ => (pe_callB call_ln (by rfl) B.len bb_len (pa_cons (pv 4) pa_nil)))) pa_nil)) pa_nil))))))
theorem cal_notes_of {P : Program} {w : World} {K : PySem.W.Frag} {mg : PySem.Str → Option Value} {base : Heap} (D : DefAt K mg "notes_of" s_notes_of) (B : Bi mg) (C_counterparts_of : Cal P w K mg base "counterparts_of" 3 ["system", "one", "other"] spCounterpartsOf) (C_step : Cal P w K mg base "step" 1 ["system", "state", "command"] spStep)
    (len : ∀ vs H Q E, spNotesOf vs H Q E → vs.length = 3) (rd : ∀ vs H Q E, spNotesOf vs H Q E → t_notes_of K { nx := fun _ H' => Q .non H', rt := Q } (start N_notes_of vs) H) : Cal P w K mg base "notes_of" 4 ["system", "state", "command"] spNotesOf :=
  cal_of D sc_notes_of (fun _ _ _ _ _ _ us hl => match us, hl with | [_, _, _], _ => rfl) (fun f cdv A outer s H E hr => der_notes_of B C_counterparts_of C_step f cdv A outer s H E hr) len rd
abbrev N_least_notes : List PySem.Str := ["system", "state", "command"]
theorem sc_least_notes : FnScope N_least_notes ["system", "state", "command"] (defScope s_least_notes) := ⟨rfl, rfl, rfl, by decide +kernel, rfl, by decide +kernel, by decide +kernel⟩
def t_least_notes (K : PySem.W.Frag) : TS := (tSeq (tDrop (tCall spCheckAction [] E0 (tCons (tVar 0) (tCons (tVar 1) (tCons (tVar 2) tNil)))))
  (tRet (tOp (rIxT K) (tCall spNotesOf [] E0 (tCons (tVar 0) (tCons (tVar 1) (tCons (tVar 2) tNil)))) (tC (.int 1)))))
theorem der_least_notes {P : Program} {w : World} {K : PySem.W.Frag} {mg : PySem.Str → Option Value} {base : Heap} (B : Bi mg) (C_check_action : Cal P w K mg base "check_action" 3 ["system", "state", "command"] spCheckAction) (C_notes_of : Cal P w K mg base "notes_of" 4 ["system", "state", "command"] spNotesOf) (f : Addr) (cdv : Value) (A : Around) (outer : List Env) (s : Shared) (H : Hp) (E : XK)
    (hr : Room 4 (A.deeper (envOfC "least_notes" (defScope s_least_notes) s.heap.objs.size f cdv))) : PSs (cxOf CX0 P w K mg base N_least_notes "least_notes" (defScope s_least_notes) f cdv A outer s H E).nox (defBody s_least_notes) (t_least_notes K) := by
  have nd : (N_least_notes).Nodup := sc_least_notes.nd
  exact (pss_cons (ps_expr (pe_cal C_check_action (hr.mono (by decide)) (by rfl) (pa_cons (pv 0) (pa_cons (pv 1) (pa_cons (pv 2) pa_nil)))))
    (pss_one (ps_ret (pe_ix ix_tup (pe_cal C_notes_of hr (by rfl) (pa_cons (pv 0) (pa_cons (pv 1) (pa_cons (pv 2) pa_nil)))) pe_int (fun _ _ => rfl)))))
theorem cal_least_notes {P : Program} {w : World} {K : PySem.W.Frag} {mg : PySem.Str → Option Value} {base : Heap} (D : DefAt K mg "least_notes" s_least_notes) (B : Bi mg) (C_check_action : Cal P w K mg base "check_action" 3 ["system", "state", "command"] spCheckAction) (C_notes_of : Cal P w K mg base "notes_of" 4 ["system", "state", "command"] spNotesOf)
    (len : ∀ vs H Q E, spLeastNotes vs H Q E → vs.length = 3) (rd : ∀ vs H Q E, spLeastNotes vs H Q E → t_least_notes K { nx := fun _ H' => Q .non H', rt := Q } (start N_least_notes vs) H) : Cal P w K mg base "least_notes" 5 ["system", "state", "command"] spLeastNotes :=
  cal_of D sc_least_notes (fun _ _ _ _ _ _ us hl => match us, hl with | [_, _, _], _ => rfl) (fun f cdv A outer s H E hr => der_least_notes B C_check_action C_notes_of f cdv A outer s H E hr) len rd
abbrev N_works : List PySem.Str := ["system", "state", "command", "rule", "initial", "results", "nexts", "waiting", "known", "x", "y", "note", "number", "onward", "triple"]
theorem sc_works : FnScope N_works ["system", "state", "command", "rule"] (defScope s_works) := ⟨rfl, rfl, rfl, by decide +kernel, rfl, by decide +kernel, by decide +kernel⟩
def t_works (K : PySem.W.Frag) : TS := (tSeq (tAsg (tVar 3) (gTup K 3 (gCons (gName 4) (gCons (gName 5) (gCons (gName 6) gNil)))))
  (tSeq (tAsg (tLst (tCons (tTup (tCons (tCall spStep [] E0 (tCons (tVar 0) (tCons (tVar 1) (tCons (tVar 2) tNil)))) (tCons (tVar 1) (tCons (tVar 4) tNil)))) tNil)) (gName 7))
  (tSeq (tAsg (tDispT (tOp (rIxL K) (tVar 7) (tC (.int 0))) (tC (.bl true))) (gName 8))
  (tSeq (tWhile (tTru K (tVar 7)) (tSeq (tAsg (tBM0 K "list" rPop (tVar 7)) (gTup K 3 (gCons (gName 9) (gCons (gName 10) (gCons (gName 11) gNil)))))
  (tSeq (tIfS (tTest (tOp rNe (tOp (rIxT K) (tOp (rIxT K) (tVar 5) (tVar 9)) (tVar 11)) (tVar 10))) (tRet (tC (.bl false))) tNext)
  (tFor (iEnumT K (tCons (tOp (rIxT K) (tOp (rIxT K) (tVar 6) (tVar 9)) (tVar 11)) tNil)) (gTup K 2 (gCons (gName 12) (gCons (gName 13) gNil))) (tSeq (tAsg (tTup (tCons (tCall spStep [] E0 (tCons (tVar 0) (tCons (tVar 9) (tCons (tVar 12) tNil)))) (tCons (tCall spStep [] E0 (tCons (tVar 0) (tCons (tVar 10) (tCons (tVar 12) tNil)))) (tCons (tVar 13) tNil)))) (gName 14))
  (tIfS (tB (tDNotIn (tVar 14) (tVar 8))) (tSeq (sDPut (tVar 8) (tVar 14) (tC (.bl true)))
  (tDrop (tBM K "list" rAppend (tVar 7) (tCons (tVar 14) tNil)))) tNext))))))
  (tRet (tC (.bl true)))))))
theorem der_works {P : Program} {w : World} {K : PySem.W.Frag} {mg : PySem.Str → Option Value} {base : Heap} (B : Bi mg) (C_step : Cal P w K mg base "step" 1 ["system", "state", "command"] spStep) (f : Addr) (cdv : Value) (A : Around) (outer : List Env) (s : Shared) (H : Hp) (E : XK)
    (hr : Room 1 (A.deeper (envOfC "works" (defScope s_works) s.heap.objs.size f cdv))) : PSs (cxOf CX0 P w K mg base N_works "works" (defScope s_works) f cdv A outer s H E).nox (defBody s_works) (t_works K) := by
  have nd : (N_works).Nodup := sc_works.nd
  exact (pss_cons (ps_asg (pv 3) (pg_tup (by rfl) (pgs_cons (pg_name (i := 4) nd rfl (by first | exact Or.inl rfl | exact Or.inr rfl)) (pgs_cons (pg_name (i := 5) nd rfl (by first | exact Or.inl rfl | exact Or.inr rfl)) (pgs_cons (pg_name (i := 6) nd rfl (by first | exact Or.inl rfl | exact Or.inr rfl)) pgs_nil)))))
    (pss_cons (ps_set (i := 7) nd rfl (by first | exact Or.inl rfl | exact Or.inr rfl) (pe_lst (pa_cons (pe_tup (pa_cons (pe_cal C_step hr (by rfl) (pa_cons (pv 0) (pa_cons (pv 1) (pa_cons (pv 2) pa_nil)))) (pa_cons (pv 1) (pa_cons (pv 4) pa_nil)))) pa_nil)))
    (pss_cons (ps_set (i := 8) nd rfl (by first | exact Or.inl rfl | exact Or.inr rfl) (pe_dispT (hu_of hr) (pe_ix ix_list (pv 7) pe_int (fun _ _ => rfl)) pe_bl))
    (pss_cons (ps_while PassesOwn.never (pt_tru (pv 7)) (pss_cons (ps_asg (pe_bm0 PySem.F.plainAttrs_list PySem.F.slot_list_pop PySem.F.type_list_pop mt_pop (pv 7)) (pg_tup (by rfl) (pgs_cons (pg_name (i := 9) nd rfl (by first | exact Or.inl rfl | exact Or.inr rfl)) (pgs_cons (pg_name (i := 10) nd rfl (by first | exact Or.inl rfl | exact Or.inr rfl)) (pgs_cons (pg_name (i := 11) nd rfl (by first | exact Or.inl rfl | exact Or.inr rfl)) pgs_nil)))))
    (pss_cons (ps_if (pt_cmpR op_ne (pe_ix ix_tup (pe_ix ix_tup (pv 5) (pv 9) (fun _ _ => rfl)) (pv 11) (fun _ _ => rfl)) (pv 10) (nomark _)) (pss_one (ps_ret pe_bl)) pss_nil)
    (pss_one (ps_for PassesOwn.never rfl (pi_enumT (by rfl) B.enum_ (pa_cons (pe_ix ix_tup (pe_ix ix_tup (pv 6) (pv 9) (fun _ _ => rfl)) (pv 11) (fun _ _ => rfl)) pa_nil)) (pg_tup (by rfl) (pgs_cons (pg_name (i := 12) nd rfl (by first | exact Or.inl rfl | exact Or.inr rfl)) (pgs_cons (pg_name (i := 13) nd rfl (by first | exact Or.inl rfl | exact Or.inr rfl)) pgs_nil))) (pss_cons (ps_set (i := 14) nd rfl (by first | exact Or.inl rfl | exact Or.inr rfl) (pe_tup (pa_cons (pe_cal C_step hr (by rfl) (pa_cons (pv 0) (pa_cons (pv 9) (pa_cons (pv 12) pa_nil)))) (pa_cons (pe_cal C_step hr (by rfl) (pa_cons (pv 0) (pa_cons (pv 10) (pa_cons (pv 12) pa_nil)))) (pa_cons (pv 13) pa_nil)))))
    (pss_one (ps_if (pt_cmp (pc_dnotin (hu_of hr) (pv 14) (pv 8)) (by rfl)) (pss_cons (ps_dput (hu_of hr) (pv 8) (pv 14) pe_bl rfl)
    (pss_one (ps_expr (pe_bm PySem.F.plainAttrs_list PySem.F.slot_list_append PySem.F.type_list_append mt_append (pv 7) (pa_cons (pv 14) pa_nil))))) pss_nil))))))))
    (pss_one (ps_ret pe_bl))))))
theorem cal_works {P : Program} {w : World} {K : PySem.W.Frag} {mg : PySem.Str → Option Value} {base : Heap} (D : DefAt K mg "works" s_works) (B : Bi mg) (C_step : Cal P w K mg base "step" 1 ["system", "state", "command"] spStep)
    (len : ∀ vs H Q E, spWorks vs H Q E → vs.length = 4) (rd : ∀ vs H Q E, spWorks vs H Q E → t_works K { nx := fun _ H' => Q .non H', rt := Q } (start N_works vs) H) : Cal P w K mg base "works" 2 ["system", "state", "command", "rule"] spWorks :=
  cal_of D sc_works (fun _ _ _ _ _ _ us hl => match us, hl with | [_, _, _, _], _ => rfl) (fun f cdv A outer s H E hr => der_works B C_step f cdv A outer s H E hr) len rd
abbrev N_accepts_rule : List PySem.Str := ["system", "state", "command", "value"]
theorem sc_accepts_rule : FnScope N_accepts_rule ["system", "state", "command", "value"] (defScope s_accepts_rule) := ⟨rfl, rfl, rfl, by decide +kernel, rfl, by decide +kernel, by decide +kernel⟩
def t_accepts_rule (K : PySem.W.Frag) : TS := (tSeq (tDrop (tCall spCheckAction [] E0 (tCons (tVar 0) (tCons (tVar 1) (tCons (tVar 2) tNil)))))
  (tRet (tAndV (tCall spIsRule [] E0 (tCons (tVar 0) (tCons (tVar 3) tNil))) (tCall spWorks [] E0 (tCons (tVar 0) (tCons (tVar 1) (tCons (tVar 2) (tCons (tVar 3) tNil))))))))
theorem der_accepts_rule {P : Program} {w : World} {K : PySem.W.Frag} {mg : PySem.Str → Option Value} {base : Heap} (B : Bi mg) (C_check_action : Cal P w K mg base "check_action" 3 ["system", "state", "command"] spCheckAction) (C_is_rule : Cal P w K mg base "is_rule" 3 ["system", "value"] spIsRule) (C_works : Cal P w K mg base "works" 2 ["system", "state", "command", "rule"] spWorks) (f : Addr) (cdv : Value) (A : Around) (outer : List Env) (s : Shared) (H : Hp) (E : XK)
    (hr : Room 3 (A.deeper (envOfC "accepts_rule" (defScope s_accepts_rule) s.heap.objs.size f cdv))) : PSs (cxOf CX0 P w K mg base N_accepts_rule "accepts_rule" (defScope s_accepts_rule) f cdv A outer s H E).nox (defBody s_accepts_rule) (t_accepts_rule K) := by
  have nd : (N_accepts_rule).Nodup := sc_accepts_rule.nd
  exact (pss_cons (ps_expr (pe_cal C_check_action hr (by rfl) (pa_cons (pv 0) (pa_cons (pv 1) (pa_cons (pv 2) pa_nil)))))
    (pss_one (ps_ret (pe_and (pe_cal C_is_rule hr (by rfl) (pa_cons (pv 0) (pa_cons (pv 3) pa_nil))) (pe_one (pe_cal C_works (hr.mono (by decide)) (by rfl) (pa_cons (pv 0) (pa_cons (pv 1) (pa_cons (pv 2) (pa_cons (pv 3) pa_nil))))))))))
theorem cal_accepts_rule {P : Program} {w : World} {K : PySem.W.Frag} {mg : PySem.Str → Option Value} {base : Heap} (D : DefAt K mg "accepts_rule" s_accepts_rule) (B : Bi mg) (C_check_action : Cal P w K mg base "check_action" 3 ["system", "state", "command"] spCheckAction) (C_is_rule : Cal P w K mg base "is_rule" 3 ["system", "value"] spIsRule) (C_works : Cal P w K mg base "works" 2 ["system", "state", "command", "rule"] spWorks)
    (len : ∀ vs H Q E, spAccepts vs H Q E → vs.length = 4) (rd : ∀ vs H Q E, spAccepts vs H Q E → t_accepts_rule K { nx := fun _ H' => Q .non H', rt := Q } (start N_accepts_rule vs) H) : Cal P w K mg base "accepts_rule" 4 ["system", "state", "command", "value"] spAccepts :=
  cal_of D sc_accepts_rule (fun _ _ _ _ _ _ us hl => match us, hl with | [_, _, _, _], _ => rfl) (fun f cdv A outer s H E hr => der_accepts_rule B C_check_action C_is_rule C_works f cdv A outer s H E hr) len rd
end Ub
set_option maxHeartbeats 8000000
/-! UbDerC: readings and derivations, printed by gen_der.py. -/
namespace Ub
open PySem PySem.Spec PyProof.Rows L2
abbrev N_Lstream : List PySem.Str := ["_law_script"]
theorem sc_Lstream : FnScope N_Lstream ["_law_script"] (defScope s_Lstream) := ⟨rfl, rfl, rfl, by decide +kernel, rfl, by decide +kernel, by decide +kernel⟩
def t_Lstream (K : PySem.W.Frag) : TS := (tRet (tLst (tCons (tCB (rListOf K) (tCons (tVar 0) tNil)) (tCons (tC (.int 0)) (tCons (tC (.int 0)) tNil)))))
theorem der_Lstream {P : Program} {w : World} {K : PySem.W.Frag} {mg : PySem.Str → Option Value} {base : Heap} (B : Bi mg)  (f : Addr) (cdv : Value) (A : Around) (outer : List Env) (s : Shared) (H : Hp) (E : XK)
    (hr : Room 0 (A.deeper (envOfC "_law_stream" (defScope s_Lstream) s.heap.objs.size f cdv))) : PSs (cxOf CX0 P w K mg base N_Lstream "_law_stream" (defScope s_Lstream) f cdv A outer s H E).nox (defBody s_Lstream) (t_Lstream K) := by
  have nd : (N_Lstream).Nodup := sc_Lstream.nd
  exact (pss_one (ps_ret (pe_lst (pa_cons (pe_callTy call_lof (by rfl) B.list_ bb_list (pa_cons (pv 0) pa_nil)) (pa_cons pe_int (pa_cons pe_int pa_nil))))))
theorem cal_Lstream {P : Program} {w : World} {K : PySem.W.Frag} {mg : PySem.Str → Option Value} {base : Heap} (D : DefAt K mg "_law_stream" s_Lstream) (B : Bi mg) 
    (len : ∀ vs H Q E, (spStream K) vs H Q E → vs.length = 1) (rd : ∀ vs H Q E, (spStream K) vs H Q E → t_Lstream K { nx := fun _ H' => Q .non H', rt := Q } (start N_Lstream vs) H) : Cal P w K mg base "_law_stream" 1 ["_law_script"] (spStream K) :=
  cal_of D sc_Lstream (fun _ _ _ _ _ _ us hl => match us, hl with | [_], _ => rfl) (fun f cdv A outer s H E hr => der_Lstream B  f cdv A outer s H E hr) len rd
abbrev N_Lnext : List PySem.Str := ["_law_stream_here", "_law_many", "_law_k", "_law_cell", "_law_digit"]
theorem sc_Lnext : FnScope N_Lnext ["_law_stream_here", "_law_many"] (defScope s_Lnext) := ⟨rfl, rfl, rfl, by decide +kernel, rfl, by decide +kernel, by decide +kernel⟩
def t_Lnext (K : PySem.W.Frag) : TS := (tSeq (tIfS (tTest (tOp rEq (tOp (rIxL K) (tVar 0) (tC (.int 1))) (tC (.int 0)))) (tSeq (tAsg (tOp (rIxL K) (tVar 0) (tC (.int 2))) (gName 2))
  (tSeq (tAsg (tOp rAddI (tC (.int 7)) (tVar 2)) (gName 3))
  (tSeq (tIfS (tTest (tOp rLtI (tVar 2) (tCB (rLn K) (tCons (tOp (rIxL K) (tVar 0) (tC (.int 0))) tNil)))) (tAsg (tCB rAbs (tCons (tOp (rIxL K) (tOp (rIxL K) (tVar 0) (tC (.int 0))) (tVar 2)) tNil)) (gName 3)) tNext)
  (tSeq (tIfS (tTest (tOp rLtI (tVar 3) (tOp rPowI (tC (.int 10)) (tC (.int 18))))) (tSeq (tAsg (tOp rModI (tCB rInt (tCons (tOp rAddI (tOp rAddI (tOp rMulI (tVar 3) (tC (.int 48271))) (tOp rMulI (tVar 2) (tC (.int 69621)))) (tC (.int 11))) tNil)) (tC (.int 2147483647))) (gName 3))
  (tAsg (tOp rAddI (tOp rMulI (tOp rModI (tCB rInt (tCons (tOp rAddI (tOp rMulI (tVar 3) (tC (.int 16807))) (tC (.int 13))) tNil)) (tC (.int 2147483647))) (tC (.int 65537))) (tVar 3)) (gName 3))) tNext)
  (tSeq (tAsg (tVar 3) (gSub (tVar 0) (tC (.int 1)) rSetL))
  (tAsg (tOp rAddI (tVar 2) (tC (.int 1))) (gSub (tVar 0) (tC (.int 2)) rSetL))))))) tNext)
  (tSeq (tAsg (tOp rModI (tCB rInt (tCons (tOp (rIxL K) (tVar 0) (tC (.int 1))) tNil)) (tVar 1)) (gName 4))
  (tSeq (tAsg (tOp rDivI (tOp (rIxL K) (tVar 0) (tC (.int 1))) (tVar 1)) (gSub (tVar 0) (tC (.int 1)) rSetL))
  (tRet (tVar 4)))))
theorem der_Lnext {P : Program} {w : World} {K : PySem.W.Frag} {mg : PySem.Str → Option Value} {base : Heap} (B : Bi mg)  (f : Addr) (cdv : Value) (A : Around) (outer : List Env) (s : Shared) (H : Hp) (E : XK)
    (hr : Room 0 (A.deeper (envOfC "_law_next" (defScope s_Lnext) s.heap.objs.size f cdv))) : PSs (cxOf CX0 P w K mg base N_Lnext "_law_next" (defScope s_Lnext) f cdv A outer s H E).nox (defBody s_Lnext) (t_Lnext K) := by
  have nd : (N_Lnext).Nodup := sc_Lnext.nd
  exact (pss_cons (ps_if (pt_cmpR op_eq (pe_ix ix_list (pv 0) pe_int (fun _ _ => rfl)) pe_int (nomark _)) (pss_cons (ps_set (i := 2) nd rfl (by first | exact Or.inl rfl | exact Or.inr rfl) (pe_ix ix_list (pv 0) pe_int (fun _ _ => rfl)))
    (pss_cons (ps_set (i := 3) nd rfl (by first | exact Or.inl rfl | exact Or.inr rfl) (pe_op op_add pe_int (pv 2)))
    (pss_cons (ps_if (pt_cmpR op_lt (pv 2) (pe_callB call_ln (by rfl) B.len bb_len (pa_cons (pe_ix ix_list (pv 0) pe_int (fun _ _ => rfl)) pa_nil)) (nomark _)) (pss_one (ps_set (i := 3) nd rfl (by first | exact Or.inl rfl | exact Or.inr rfl) (pe_callB call_ab (by rfl) B.abs_ bb_abs (pa_cons (pe_ix ix_list (pe_ix ix_list (pv 0) pe_int (fun _ _ => rfl)) (pv 2) (fun _ _ => rfl)) pa_nil)))) pss_nil)
    (pss_cons (ps_if (pt_cmpR op_lt (pv 3) (pe_op op_pow pe_int pe_int) (nomark _)) (pss_cons (ps_set (i := 3) nd rfl (by first | exact Or.inl rfl | exact Or.inr rfl) (pe_op op_modN (pe_callTy call_in (by rfl) B.int_ bb_int (pa_cons (pe_op op_add (pe_op op_add (pe_op op_mul (pv 3) pe_int) (pe_op op_mul (pv 2) pe_int)) pe_int) pa_nil)) pe_int))
    (pss_one (ps_set (i := 3) nd rfl (by first | exact Or.inl rfl | exact Or.inr rfl) (pe_op op_add (pe_op op_mul (pe_op op_modN (pe_callTy call_in (by rfl) B.int_ bb_int (pa_cons (pe_op op_add (pe_op op_mul (pv 3) pe_int) pe_int) pa_nil)) pe_int) pe_int) (pv 3))))) pss_nil)
    (pss_cons (ps_asg (pv 3) (pg_sub (pv 0) pe_int set_list))
    (pss_one (ps_asg (pe_op op_add (pv 2) pe_int) (pg_sub (pv 0) pe_int set_list)))))))) pss_nil)
    (pss_cons (ps_set (i := 4) nd rfl (by first | exact Or.inl rfl | exact Or.inr rfl) (pe_op op_modN (pe_callTy call_in (by rfl) B.int_ bb_int (pa_cons (pe_ix ix_list (pv 0) pe_int (fun _ _ => rfl)) pa_nil)) (pv 1)))
    (pss_cons (ps_asg (pe_op op_fdivN (pe_ix ix_list (pv 0) pe_int (fun _ _ => rfl)) (pv 1)) (pg_sub (pv 0) pe_int set_list))
    (pss_one (ps_ret (pv 4))))))
theorem cal_Lnext {P : Program} {w : World} {K : PySem.W.Frag} {mg : PySem.Str → Option Value} {base : Heap} (D : DefAt K mg "_law_next" s_Lnext) (B : Bi mg) 
    (len : ∀ vs H Q E, spNext vs H Q E → vs.length = 2) (rd : ∀ vs H Q E, spNext vs H Q E → t_Lnext K { nx := fun _ H' => Q .non H', rt := Q } (start N_Lnext vs) H) : Cal P w K mg base "_law_next" 1 ["_law_stream_here", "_law_many"] spNext :=
  cal_of D sc_Lnext (fun _ _ _ _ _ _ us hl => match us, hl with | [_, _], _ => rfl) (fun f cdv A outer s H E hr => der_Lnext B  f cdv A outer s H E hr) len rd
abbrev N_Lequal : List PySem.Str := ["_law_actual", "_law_due", "_law_at"]
theorem sc_Lequal : FnScope N_Lequal ["_law_actual", "_law_due"] (defScope s_Lequal) := ⟨rfl, rfl, rfl, by decide +kernel, rfl, by decide +kernel, by decide +kernel⟩
def t_Lequal (K : PySem.W.Frag) : TS := (tSeq (tIfS (tB (tIsN (tVar 1))) (tRet (tIsN (tVar 0))) tNext)
  (tSeq (tIfS (tB (tCB (rIsi K) (tCons (tVar 1) (tCons (tC (.ty "bool")) tNil)))) (tRet (tAndV (tCB (rIsi K) (tCons (tVar 0) (tCons (tC (.ty "bool")) tNil))) (tOp rEq (tVar 0) (tVar 1)))) tNext)
  tNever))
theorem der_Lequal {P : Program} {w : World} {K : PySem.W.Frag} {mg : PySem.Str → Option Value} {base : Heap} (B : Bi mg)  (f : Addr) (cdv : Value) (A : Around) (outer : List Env) (s : Shared) (H : Hp) (E : XK)
    (hr : Room 0 (A.deeper (envOfC "_law_equal" (defScope s_Lequal) s.heap.objs.size f cdv))) : PSs (cxOf CX0 P w K mg base N_Lequal "_law_equal" (defScope s_Lequal) f cdv A outer s H E).nox (defBody s_Lequal) (t_Lequal K) := by
  have nd : (N_Lequal).Nodup := sc_Lequal.nd
  exact (pss_cons (ps_if (pt_cmp (pc_isN (pv 1))) (pss_one (ps_ret (pe_cmp (pc_isN (pv 0)) rfl))) pss_nil)
    (pss_cons (ps_if (pt_val (pe_callB call_isi (by rfl) B.isinstance bb_isi (pa_cons (pv 1) (pa_cons (pe_tyn (by rfl) B.bool_ bb_bool) pa_nil)))) (pss_one (ps_ret (pe_and (pe_callB call_isi (by rfl) B.isinstance bb_isi (pa_cons (pv 0) (pa_cons (pe_tyn (by rfl) B.bool_ bb_bool) pa_nil))) (pe_one (pe_cmpR op_eq (pv 0) (pv 1) (nomark _)))))) pss_nil)
    pss_never))
theorem cal_Lequal {P : Program} {w : World} {K : PySem.W.Frag} {mg : PySem.Str → Option Value} {base : Heap} (D : DefAt K mg "_law_equal" s_Lequal) (B : Bi mg) 
    (len : ∀ vs H Q E, spEqual vs H Q E → vs.length = 2) (rd : ∀ vs H Q E, spEqual vs H Q E → t_Lequal K { nx := fun _ H' => Q .non H', rt := Q } (start N_Lequal vs) H) : Cal P w K mg base "_law_equal" 1 ["_law_actual", "_law_due"] spEqual :=
  cal_of D sc_Lequal (fun _ _ _ _ _ _ us hl => match us, hl with | [_, _], _ => rfl) (fun f cdv A outer s H E hr => der_Lequal B  f cdv A outer s H E hr) len rd
abbrev N_Lsystem : List PySem.Str := ["_law_stream_here", "_law_most", "_law_commands", "_law_states", "_law_tables", "_law_k", "_law_table", "_law_left", "_law_state"]
theorem sc_Lsystem : FnScope N_Lsystem ["_law_stream_here", "_law_most", "_law_commands"] (defScope s_Lsystem) := ⟨rfl, rfl, rfl, by decide +kernel, rfl, by decide +kernel, by decide +kernel⟩
def t_Lsystem (K : PySem.W.Frag) : TS := (tSeq (tAsg (tOp rAddI (tC (.int 1)) (tCall spNext [] E0 (tCons (tVar 0) (tCons (tVar 1) tNil)))) (gName 3))
  (tSeq (tAsg (tLst tNil) (gName 4))
  (tSeq (tFor (iRng1 (tCons (tOp rAddI (tC (.int 1)) (tCall spNext [] E0 (tCons (tVar 0) (tCons (tVar 2) tNil)))) tNil)) (gName 5) (tSeq (tAsg (tCB (rTupOf K) (tCons (tLc (iRng1 (tCons (tVar 3) tNil)) (gName 8) tYes (tCall spNext [] E0 (tCons (tVar 0) (tCons (tVar 3) tNil))) [8]) tNil)) (gName 6))
  (tSeq (tIfS (tTest (tOp rEq (tCall spNext [] E0 (tCons (tVar 0) (tCons (tC (.int 2)) tNil))) (tC (.int 0)))) (tSeq (tAsg (tLstRg (tRg1 (tVar 3))) (gName 7))
  (tAsg (tCB (rTupOf K) (tCons (tLc (iRng1 (tCons (tVar 3) tNil)) (gName 8) tYes (tBM K "list" rPopAt (tVar 7) (tCons (tCall spNext [] E0 (tCons (tVar 0) (tCons (tCB (rLn K) (tCons (tVar 7) tNil)) tNil))) tNil)) [8]) tNil)) (gName 6))) tNext)
  (tDrop (tBM K "list" rAppend (tVar 4) (tCons (tVar 6) tNil))))))
  (tRet (tTup (tCons (tVar 3) (tCons (tCall spNext [] E0 (tCons (tVar 0) (tCons (tVar 3) tNil))) (tCons (tCB (rTupOf K) (tCons (tVar 4) tNil)) tNil))))))))
theorem der_Lsystem {P : Program} {w : World} {K : PySem.W.Frag} {mg : PySem.Str → Option Value} {base : Heap} (B : Bi mg) (C_Lnext : Cal P w K mg base "_law_next" 1 ["_law_stream_here", "_law_many"] spNext) (f : Addr) (cdv : Value) (A : Around) (outer : List Env) (s : Shared) (H : Hp) (E : XK)
    (hr : Room 1 (A.deeper (envOfC "_law_system" (defScope s_Lsystem) s.heap.objs.size f cdv))) : PSs (cxOf CX0 P w K mg base N_Lsystem "_law_system" (defScope s_Lsystem) f cdv A outer s H E).nox (defBody s_Lsystem) (t_Lsystem K) := by
  have nd : (N_Lsystem).Nodup := sc_Lsystem.nd
  exact (pss_cons (ps_set (i := 3) nd rfl (by first | exact Or.inl rfl | exact Or.inr rfl) (pe_op op_add pe_int (pe_cal C_Lnext hr (by rfl) (pa_cons (pv 0) (pa_cons (pv 1) pa_nil)))))
    (pss_cons (ps_set (i := 4) nd rfl (by first | exact Or.inl rfl | exact Or.inr rfl) (pe_lst pa_nil))
    (pss_cons (ps_for PassesOwn.never rfl (pi_range1 (by rfl) B.range (pa_cons (pe_op op_add pe_int (pe_cal C_Lnext hr (by rfl) (pa_cons (pv 0) (pa_cons (pv 2) pa_nil)))) pa_nil)) (pg_name (i := 5) nd rfl (by first | exact Or.inl rfl | exact Or.inr rfl)) (pss_cons (ps_set (i := 6) nd rfl (by first | exact Or.inl rfl | exact Or.inr rfl) (pe_callTy call_tof (by rfl) B.tuple_ bb_tuple (pa_cons (pe_lc (own := [("_law_state", 8)]) rfl nd (pi_range1 (by rfl) B.range (pa_cons (pv 3) pa_nil)) (blkOk_by (N := N_Lsystem) (sc := (defScope s_Lsystem)) (by decide +kernel)) (fun _ _ _ _ _ => (pg_name (i := 8) nd rfl (by first | exact Or.inl rfl | exact Or.inr rfl))) (fun _ _ _ _ _ => pts_nil) (fun _ _ _ _ _ => (pe_cal C_Lnext hr (by rfl) (pa_cons (pv 0) (pa_cons (pv 3) pa_nil))))) pa_nil)))
    (pss_cons (ps_if (pt_cmpR op_eq (pe_cal C_Lnext hr (by rfl) (pa_cons (pv 0) (pa_cons pe_int pa_nil))) pe_int (nomark _)) (pss_cons (ps_set (i := 7) nd rfl (by first | exact Or.inl rfl | exact Or.inr rfl) (pe_listRg rfl (by rfl) B.list_ (prg_1 (by rfl) B.range (pv 3))))
    (pss_one (ps_set (i := 6) nd rfl (by first | exact Or.inl rfl | exact Or.inr rfl) (pe_callTy call_tof (by rfl) B.tuple_ bb_tuple (pa_cons (pe_lc (own := [("_law_state", 8)]) rfl nd (pi_range1 (by rfl) B.range (pa_cons (pv 3) pa_nil)) (blkOk_by (N := N_Lsystem) (sc := (defScope s_Lsystem)) (by decide +kernel)) (fun _ _ _ _ _ => (pg_name (i := 8) nd rfl (by first | exact Or.inl rfl | exact Or.inr rfl))) (fun _ _ _ _ _ => pts_nil) (fun _ _ _ _ _ => (pe_bm PySem.F.plainAttrs_list PySem.F.slot_list_pop PySem.F.type_list_pop mt_popAt (pv 7) (pa_cons (pe_cal C_Lnext hr (by rfl) (pa_cons (pv 0) (pa_cons (pe_callB call_ln (by rfl) B.len bb_len (pa_cons (pv 7) pa_nil)) pa_nil))) pa_nil)))) pa_nil))))) pss_nil)
    (pss_one (ps_expr (pe_bm PySem.F.plainAttrs_list PySem.F.slot_list_append PySem.F.type_list_append mt_append (pv 4) (pa_cons (pv 6) pa_nil)))))))
    (pss_one (ps_ret (pe_tup (pa_cons (pv 3) (pa_cons (pe_cal C_Lnext hr (by rfl) (pa_cons (pv 0) (pa_cons (pv 3) pa_nil))) (pa_cons (pe_callTy call_tof (by rfl) B.tuple_ bb_tuple (pa_cons (pv 4) pa_nil)) pa_nil)))))))))
theorem cal_Lsystem {P : Program} {w : World} {K : PySem.W.Frag} {mg : PySem.Str → Option Value} {base : Heap} (D : DefAt K mg "_law_system" s_Lsystem) (B : Bi mg) (C_Lnext : Cal P w K mg base "_law_next" 1 ["_law_stream_here", "_law_many"] spNext)
    (len : ∀ vs H Q E, spSystem vs H Q E → vs.length = 3) (rd : ∀ vs H Q E, spSystem vs H Q E → t_Lsystem K { nx := fun _ H' => Q .non H', rt := Q } (start N_Lsystem vs) H) : Cal P w K mg base "_law_system" 2 ["_law_stream_here", "_law_most", "_law_commands"] spSystem :=
  cal_of D sc_Lsystem (fun _ _ _ _ _ _ us hl => match us, hl with | [_, _, _], _ => rfl) (fun f cdv A outer s H E hr => der_Lsystem B C_Lnext f cdv A outer s H E hr) len rd
abbrev N_Lpairs : List PySem.Str := ["_law_system_here", "_law_one", "_law_other", "_law_first", "_law_row", "_law_turn", "_law_number", "_law_pair"]
theorem sc_Lpairs : FnScope N_Lpairs ["_law_system_here", "_law_one", "_law_other"] (defScope s_Lpairs) := ⟨rfl, rfl, rfl, by decide +kernel, rfl, by decide +kernel, by decide +kernel⟩
def t_Lpairs (K : PySem.W.Frag) : TS := (tSeq (tAsg (tDispT (tTup (tCons (tVar 1) (tCons (tVar 2) tNil))) (tTup tNil)) (gName 3))
  (tSeq (tAsg (tLst (tCons (tTup (tCons (tVar 1) (tCons (tVar 2) tNil))) tNil)) (gName 4))
  (tSeq (tFor (iRng1 (tCons (tC (.int 70)) tNil)) (gName 5) (tIfS (tTest (tOp rLtI (tVar 5) (tCB (rLn K) (tCons (tVar 4) tNil)))) (tFor (iRng1 (tCons (tCB (rLn K) (tCons (tOp (rIxT K) (tVar 0) (tC (.int 2))) tNil)) tNil)) (gName 6) (tSeq (tAsg (tTup (tCons (tOp (rIxT K) (tOp (rIxT K) (tOp (rIxT K) (tVar 0) (tC (.int 2))) (tVar 6)) (tOp (rIxT K) (tOp (rIxL K) (tVar 4) (tVar 5)) (tC (.int 0)))) (tCons (tOp (rIxT K) (tOp (rIxT K) (tOp (rIxT K) (tVar 0) (tC (.int 2))) (tVar 6)) (tOp (rIxT K) (tOp (rIxL K) (tVar 4) (tVar 5)) (tC (.int 1)))) tNil))) (gName 7))
  (tIfS (tB (tDNotIn (tVar 7) (tVar 3))) (tSeq (sDPut (tVar 3) (tVar 7) (tOp (rCatA K) (tDGet (tVar 3) (tOp (rIxL K) (tVar 4) (tVar 5))) (tTup (tCons (tVar 6) tNil))))
  (tDrop (tBM K "list" rAppend (tVar 4) (tCons (tVar 7) tNil)))) tNext))) tNext))
  (tRet (tVar 3)))))
theorem der_Lpairs {P : Program} {w : World} {K : PySem.W.Frag} {mg : PySem.Str → Option Value} {base : Heap} (B : Bi mg)  (f : Addr) (cdv : Value) (A : Around) (outer : List Env) (s : Shared) (H : Hp) (E : XK)
    (hr : Room 0 (A.deeper (envOfC "_law_pairs" (defScope s_Lpairs) s.heap.objs.size f cdv))) : PSs (cxOf CX0 P w K mg base N_Lpairs "_law_pairs" (defScope s_Lpairs) f cdv A outer s H E).nox (defBody s_Lpairs) (t_Lpairs K) := by
  have nd : (N_Lpairs).Nodup := sc_Lpairs.nd
  exact (pss_cons (ps_set (i := 3) nd rfl (by first | exact Or.inl rfl | exact Or.inr rfl) (pe_dispT (hu_of hr) (pe_tup (pa_cons (pv 1) (pa_cons (pv 2) pa_nil))) (pe_tup pa_nil)))
    (pss_cons (ps_set (i := 4) nd rfl (by first | exact Or.inl rfl | exact Or.inr rfl) (pe_lst (pa_cons (pe_tup (pa_cons (pv 1) (pa_cons (pv 2) pa_nil))) pa_nil)))
    (pss_cons (ps_for PassesOwn.never rfl (pi_range1 (by rfl) B.range (pa_cons pe_int pa_nil)) (pg_name (i := 5) nd rfl (by first | exact Or.inl rfl | exact Or.inr rfl)) (pss_one (ps_if (pt_cmpR op_lt (pv 5) (pe_callB call_ln (by rfl) B.len bb_len (pa_cons (pv 4) pa_nil)) (nomark _)) (pss_one (ps_for PassesOwn.never rfl (pi_range1 (by rfl) B.range (pa_cons (pe_callB call_ln (by rfl) B.len bb_len (pa_cons (pe_ix ix_tup (pv 0) pe_int (fun _ _ => rfl)) pa_nil)) pa_nil)) (pg_name (i := 6) nd rfl (by first | exact Or.inl rfl | exact Or.inr rfl)) (pss_cons (ps_set (i := 7) nd rfl (by first | exact Or.inl rfl | exact Or.inr rfl) (pe_tup (pa_cons (pe_ix ix_tup (pe_ix ix_tup (pe_ix ix_tup (pv 0) pe_int (fun _ _ => rfl)) (pv 6) (fun _ _ => rfl)) (pe_ix ix_tup (pe_ix ix_list (pv 4) (pv 5) (fun _ _ => rfl)) pe_int (fun _ _ => rfl)) (fun _ _ => rfl)) (pa_cons (pe_ix ix_tup (pe_ix ix_tup (pe_ix ix_tup (pv 0) pe_int (fun _ _ => rfl)) (pv 6) (fun _ _ => rfl)) (pe_ix ix_tup (pe_ix ix_list (pv 4) (pv 5) (fun _ _ => rfl)) pe_int (fun _ _ => rfl)) (fun _ _ => rfl)) pa_nil))))
    (pss_one (ps_if (pt_cmp (pc_dnotin (hu_of hr) (pv 7) (pv 3)) (by rfl)) (pss_cons (ps_dput (hu_of hr) (pv 3) (pv 7) (pe_op op_catA (pe_dget (hu_of hr) (pv 3) (pe_ix ix_list (pv 4) (pv 5) (fun _ _ => rfl)) (fun _ _ => rfl)) (pe_tup (pa_cons (pv 6) pa_nil))) rfl)
    (pss_one (ps_expr (pe_bm PySem.F.plainAttrs_list PySem.F.slot_list_append PySem.F.type_list_append mt_append (pv 4) (pa_cons (pv 7) pa_nil))))) pss_nil))))) pss_nil)))
    (pss_one (ps_ret (pv 3))))))
theorem cal_Lpairs {P : Program} {w : World} {K : PySem.W.Frag} {mg : PySem.Str → Option Value} {base : Heap} (D : DefAt K mg "_law_pairs" s_Lpairs) (B : Bi mg) 
    (len : ∀ vs H Q E, spLPairs vs H Q E → vs.length = 3) (rd : ∀ vs H Q E, spLPairs vs H Q E → t_Lpairs K { nx := fun _ H' => Q .non H', rt := Q } (start N_Lpairs vs) H) : Cal P w K mg base "_law_pairs" 1 ["_law_system_here", "_law_one", "_law_other"] spLPairs :=
  cal_of D sc_Lpairs (fun _ _ _ _ _ _ us hl => match us, hl with | [_, _, _], _ => rfl) (fun f cdv A outer s H E hr => der_Lpairs B  f cdv A outer s H E hr) len rd
abbrev N_Lcounterparts : List PySem.Str := ["_law_system_here", "_law_state", "_law_command", "_law_first", "_law_found", "_law_x", "_law_pair"]
theorem sc_Lcounterparts : FnScope N_Lcounterparts ["_law_system_here", "_law_state", "_law_command"] (defScope s_Lcounterparts) := ⟨rfl, rfl, rfl, by decide +kernel, rfl, by decide +kernel, by decide +kernel⟩
def t_Lcounterparts (K : PySem.W.Frag) : TS := (tSeq (tAsg (tCall spLPairs [] E0 (tCons (tVar 0) (tCons (tOp (rIxT K) (tOp (rIxT K) (tOp (rIxT K) (tVar 0) (tC (.int 2))) (tVar 2)) (tVar 1)) (tCons (tVar 1) tNil)))) (gName 3))
  (tSeq (tAsg (tLst tNil) (gName 4))
  (tSeq (tFor (iRng1 (tCons (tOp (rIxT K) (tVar 0) (tC (.int 0))) tNil)) (gName 5) (tDrop (tBM K "list" rAppend (tVar 4) (tCons (tCB (rTupF K) (tCons (tCB (rSortedI K) (tCons (tLockE (tLc (iKeys (tVar 3)) (gName 6) (tTest (tOp rEq (tOp (rIxT K) (tVar 6) (tC (.int 0))) (tVar 5))) (tOp (rIxT K) (tVar 6) (tC (.int 1))) [6])) tNil)) tNil)) tNil))))
  (tRet (tVar 4)))))
theorem der_Lcounterparts {P : Program} {w : World} {K : PySem.W.Frag} {mg : PySem.Str → Option Value} {base : Heap} (B : Bi mg) (C_Lpairs : Cal P w K mg base "_law_pairs" 1 ["_law_system_here", "_law_one", "_law_other"] spLPairs) (f : Addr) (cdv : Value) (A : Around) (outer : List Env) (s : Shared) (H : Hp) (E : XK)
    (hr : Room 1 (A.deeper (envOfC "_law_counterparts" (defScope s_Lcounterparts) s.heap.objs.size f cdv))) : PSs (cxOf CX0 P w K mg base N_Lcounterparts "_law_counterparts" (defScope s_Lcounterparts) f cdv A outer s H E).nox (defBody s_Lcounterparts) (t_Lcounterparts K) := by
  have nd : (N_Lcounterparts).Nodup := sc_Lcounterparts.nd
  exact (pss_cons (ps_set (i := 3) nd rfl (by first | exact Or.inl rfl | exact Or.inr rfl) (pe_cal C_Lpairs hr (by rfl) (pa_cons (pv 0) (pa_cons (pe_ix ix_tup (pe_ix ix_tup (pe_ix ix_tup (pv 0) pe_int (fun _ _ => rfl)) (pv 2) (fun _ _ => rfl)) (pv 1) (fun _ _ => rfl)) (pa_cons (pv 1) pa_nil)))))
    (pss_cons (ps_set (i := 4) nd rfl (by first | exact Or.inl rfl | exact Or.inr rfl) (pe_lst pa_nil))
    (pss_cons (ps_for PassesOwn.never rfl (pi_range1 (by rfl) B.range (pa_cons (pe_ix ix_tup (pv 0) pe_int (fun _ _ => rfl)) pa_nil)) (pg_name (i := 5) nd rfl (by first | exact Or.inl rfl | exact Or.inr rfl)) (pss_one (ps_expr (pe_bm PySem.F.plainAttrs_list PySem.F.slot_list_append PySem.F.type_list_append mt_append (pv 4) (pa_cons (pe_callTy call_tupF (by rfl) B.tuple_ bb_tuple (pa_cons (pe_callB cr_sortedI (by rfl) B.sorted_ bb_sorted (pa_cons (pe_lock (pe_lc (own := [("_law_pair", 6)]) rfl nd (pi_keys (pv 3)) (blkOk_by (N := N_Lcounterparts) (sc := (defScope s_Lcounterparts)) (by decide +kernel)) (fun _ _ _ _ _ => (pg_name (i := 6) nd rfl (by first | exact Or.inl rfl | exact Or.inr rfl))) (fun _ _ _ _ _ => (pts_one (pt_cmpR op_eq (pe_ix ix_tup (pv 6) pe_int (fun _ _ => rfl)) (pv 5) (nomark _)))) (fun _ _ _ _ _ => (pe_ix ix_tup (pv 6) pe_int (fun _ _ => rfl))))) pa_nil)) pa_nil)) pa_nil)))))
    (pss_one (ps_ret (pv 4))))))
theorem cal_Lcounterparts {P : Program} {w : World} {K : PySem.W.Frag} {mg : PySem.Str → Option Value} {base : Heap} (D : DefAt K mg "_law_counterparts" s_Lcounterparts) (B : Bi mg) (C_Lpairs : Cal P w K mg base "_law_pairs" 1 ["_law_system_here", "_law_one", "_law_other"] spLPairs)
    (len : ∀ vs H Q E, spLCounterparts vs H Q E → vs.length = 3) (rd : ∀ vs H Q E, spLCounterparts vs H Q E → t_Lcounterparts K { nx := fun _ H' => Q .non H', rt := Q } (start N_Lcounterparts vs) H) : Cal P w K mg base "_law_counterparts" 2 ["_law_system_here", "_law_state", "_law_command"] spLCounterparts :=
  cal_of D sc_Lcounterparts (fun _ _ _ _ _ _ us hl => match us, hl with | [_, _, _], _ => rfl) (fun f cdv A outer s H E hr => der_Lcounterparts B C_Lpairs f cdv A outer s H E hr) len rd
abbrev N_Lworks : List PySem.Str := ["_law_system_here", "_law_state", "_law_command", "_law_rule", "_law_row", "_law_turn", "_law_x", "_law_y", "_law_note", "_law_number", "_law_triple"]
theorem sc_Lworks : FnScope N_Lworks ["_law_system_here", "_law_state", "_law_command", "_law_rule"] (defScope s_Lworks) := ⟨rfl, rfl, rfl, by decide +kernel, rfl, by decide +kernel, by decide +kernel⟩
def t_Lworks (K : PySem.W.Frag) : TS := (tSeq (tAsg (tLst (tCons (tTup (tCons (tOp (rIxT K) (tOp (rIxT K) (tOp (rIxT K) (tVar 0) (tC (.int 2))) (tVar 2)) (tVar 1)) (tCons (tVar 1) (tCons (tOp (rIxT K) (tVar 3) (tC (.int 0))) tNil)))) tNil)) (gName 4))
  (tSeq (tFor (iRng1 (tCons (tC (.int 600)) tNil)) (gName 5) (tIfS (tTest (tOp rLtI (tVar 5) (tCB (rLn K) (tCons (tVar 4) tNil)))) (tSeq (tAsg (tOp (rIxL K) (tVar 4) (tVar 5)) (gTup K 3 (gCons (gName 6) (gCons (gName 7) (gCons (gName 8) gNil)))))
  (tSeq (tIfS (tTest (tOp rNe (tOp (rIxT K) (tOp (rIxT K) (tOp (rIxT K) (tVar 3) (tC (.int 1))) (tVar 6)) (tVar 8)) (tVar 7))) (tRet (tC (.bl false))) tNext)
  (tFor (iRng1 (tCons (tCB (rLn K) (tCons (tOp (rIxT K) (tVar 0) (tC (.int 2))) tNil)) tNil)) (gName 9) (tSeq (tAsg (tTup (tCons (tOp (rIxT K) (tOp (rIxT K) (tOp (rIxT K) (tVar 0) (tC (.int 2))) (tVar 9)) (tVar 6)) (tCons (tOp (rIxT K) (tOp (rIxT K) (tOp (rIxT K) (tVar 0) (tC (.int 2))) (tVar 9)) (tVar 7)) (tCons (tOp (rIxT K) (tOp (rIxT K) (tOp (rIxT K) (tOp (rIxT K) (tVar 3) (tC (.int 2))) (tVar 6)) (tVar 8)) (tVar 9)) tNil)))) (gName 10))
  (tIfS (tTest (tOp (rNotInD K) (tVar 10) (tVar 4))) (tDrop (tBM K "list" rAppend (tVar 4) (tCons (tVar 10) tNil))) tNext))))) tNext))
  (tRet (tC (.bl true)))))
theorem der_Lworks {P : Program} {w : World} {K : PySem.W.Frag} {mg : PySem.Str → Option Value} {base : Heap} (B : Bi mg)  (f : Addr) (cdv : Value) (A : Around) (outer : List Env) (s : Shared) (H : Hp) (E : XK)
    (hr : Room 0 (A.deeper (envOfC "_law_works" (defScope s_Lworks) s.heap.objs.size f cdv))) : PSs (cxOf CX0 P w K mg base N_Lworks "_law_works" (defScope s_Lworks) f cdv A outer s H E).nox (defBody s_Lworks) (t_Lworks K) := by
  have nd : (N_Lworks).Nodup := sc_Lworks.nd
  exact (pss_cons (ps_set (i := 4) nd rfl (by first | exact Or.inl rfl | exact Or.inr rfl) (pe_lst (pa_cons (pe_tup (pa_cons (pe_ix ix_tup (pe_ix ix_tup (pe_ix ix_tup (pv 0) pe_int (fun _ _ => rfl)) (pv 2) (fun _ _ => rfl)) (pv 1) (fun _ _ => rfl)) (pa_cons (pv 1) (pa_cons (pe_ix ix_tup (pv 3) pe_int (fun _ _ => rfl)) pa_nil)))) pa_nil)))
    (pss_cons (ps_for PassesOwn.never rfl (pi_range1 (by rfl) B.range (pa_cons pe_int pa_nil)) (pg_name (i := 5) nd rfl (by first | exact Or.inl rfl | exact Or.inr rfl)) (pss_one (ps_if (pt_cmpR op_lt (pv 5) (pe_callB call_ln (by rfl) B.len bb_len (pa_cons (pv 4) pa_nil)) (nomark _)) (pss_cons (ps_asg (pe_ix ix_list (pv 4) (pv 5) (fun _ _ => rfl)) (pg_tup (by rfl) (pgs_cons (pg_name (i := 6) nd rfl (by first | exact Or.inl rfl | exact Or.inr rfl)) (pgs_cons (pg_name (i := 7) nd rfl (by first | exact Or.inl rfl | exact Or.inr rfl)) (pgs_cons (pg_name (i := 8) nd rfl (by first | exact Or.inl rfl | exact Or.inr rfl)) pgs_nil)))))
    (pss_cons (ps_if (pt_cmpR op_ne (pe_ix ix_tup (pe_ix ix_tup (pe_ix ix_tup (pv 3) pe_int (fun _ _ => rfl)) (pv 6) (fun _ _ => rfl)) (pv 8) (fun _ _ => rfl)) (pv 7) (nomark _)) (pss_one (ps_ret pe_bl)) pss_nil)
    (pss_one (ps_for PassesOwn.never rfl (pi_range1 (by rfl) B.range (pa_cons (pe_callB call_ln (by rfl) B.len bb_len (pa_cons (pe_ix ix_tup (pv 0) pe_int (fun _ _ => rfl)) pa_nil)) pa_nil)) (pg_name (i := 9) nd rfl (by first | exact Or.inl rfl | exact Or.inr rfl)) (pss_cons (ps_set (i := 10) nd rfl (by first | exact Or.inl rfl | exact Or.inr rfl) (pe_tup (pa_cons (pe_ix ix_tup (pe_ix ix_tup (pe_ix ix_tup (pv 0) pe_int (fun _ _ => rfl)) (pv 9) (fun _ _ => rfl)) (pv 6) (fun _ _ => rfl)) (pa_cons (pe_ix ix_tup (pe_ix ix_tup (pe_ix ix_tup (pv 0) pe_int (fun _ _ => rfl)) (pv 9) (fun _ _ => rfl)) (pv 7) (fun _ _ => rfl)) (pa_cons (pe_ix ix_tup (pe_ix ix_tup (pe_ix ix_tup (pe_ix ix_tup (pv 3) pe_int (fun _ _ => rfl)) (pv 6) (fun _ _ => rfl)) (pv 8) (fun _ _ => rfl)) (pv 9) (fun _ _ => rfl)) pa_nil)))))
    (pss_one (ps_if (pt_cmpR (op_notInD (hu65 hr)) (pv 10) (pv 4) (by rfl)) (pss_one (ps_expr (pe_bm PySem.F.plainAttrs_list PySem.F.slot_list_append PySem.F.type_list_append mt_append (pv 4) (pa_cons (pv 10) pa_nil)))) pss_nil))))))) pss_nil)))
    (pss_one (ps_ret pe_bl))))
theorem cal_Lworks {P : Program} {w : World} {K : PySem.W.Frag} {mg : PySem.Str → Option Value} {base : Heap} (D : DefAt K mg "_law_works" s_Lworks) (B : Bi mg) 
    (len : ∀ vs H Q E, spLWorks vs H Q E → vs.length = 4) (rd : ∀ vs H Q E, spLWorks vs H Q E → t_Lworks K { nx := fun _ H' => Q .non H', rt := Q } (start N_Lworks vs) H) : Cal P w K mg base "_law_works" 1 ["_law_system_here", "_law_state", "_law_command", "_law_rule"] spLWorks :=
  cal_of D sc_Lworks (fun _ _ _ _ _ _ us hl => match us, hl with | [_, _, _, _], _ => rfl) (fun f cdv A outer s H E hr => der_Lworks B  f cdv A outer s H E hr) len rd
end Ub
set_option maxHeartbeats 8000000
/-! UbDerD: readings and derivations, printed by gen_der.py. -/
namespace Ub
open PySem PySem.Spec PyProof.Rows L2
abbrev N_Ltold_rule : List PySem.Str := ["_law_system_here", "_law_state", "_law_command", "_law_found", "_law_many", "_law_results", "_law_nexts", "_law_x", "_law_rows", "_law_note", "_law_row", "_law_table"]
theorem sc_Ltold_rule : FnScope N_Ltold_rule ["_law_system_here", "_law_state", "_law_command"] (defScope s_Ltold_rule) := ⟨rfl, rfl, rfl, by decide +kernel, rfl, by decide +kernel, by decide +kernel⟩
def t_Ltold_rule (K : PySem.W.Frag) : TS := (tSeq (tAsg (tCall spLCounterparts [] E0 (tCons (tVar 0) (tCons (tVar 1) (tCons (tVar 2) tNil)))) (gName 3))
  (tSeq (tAsg (tCB (rMax K) (tCons (tLc (iList K (tVar 3)) (gName 10) tYes (tCB (rLn K) (tCons (tVar 10) tNil)) [10]) tNil)) (gName 4))
  (tSeq (tAsg (tLst tNil) (gName 5))
  (tSeq (tAsg (tLst tNil) (gName 6))
  (tSeq (tFor (iRng1 (tCons (tOp (rIxT K) (tVar 0) (tC (.int 0))) tNil)) (gName 7) (tSeq (tDrop (tBM K "list" rAppend (tVar 5) (tCons (tOp (rCatA K) (tOp (rIxL K) (tVar 3) (tVar 7)) (tOp (rRepA K) (tTup (tCons (tC (.int 0)) tNil)) (tOp rSubI (tVar 4) (tCB (rLn K) (tCons (tOp (rIxL K) (tVar 3) (tVar 7)) tNil))))) tNil)))
  (tSeq (tAsg (tLst tNil) (gName 8))
  (tSeq (tFor (iRng1 (tCons (tVar 4) tNil)) (gName 9) (tSeq (tAsg (tLst tNil) (gName 10))
  (tSeq (tFor (iTup K (tOp (rIxT K) (tVar 0) (tC (.int 2)))) (gName 11) (tIfS (tTest (tOp rLtI (tVar 9) (tCB (rLn K) (tCons (tOp (rIxL K) (tVar 3) (tVar 7)) tNil)))) (tDrop (tBM K "list" rAppend (tVar 10) (tCons (tMG tyF (rIdxT K) (tOp (rIxL K) (tVar 3) (tOp (rIxT K) (tVar 11) (tVar 7))) (tCons (tOp (rIxT K) (tVar 11) (tOp (rIxT K) (tOp (rIxL K) (tVar 3) (tVar 7)) (tVar 9))) tNil)) tNil))) (tDrop (tBM K "list" rAppend (tVar 10) (tCons (tC (.int 0)) tNil)))))
  (tDrop (tBM K "list" rAppend (tVar 8) (tCons (tCB (rTupOf K) (tCons (tVar 10) tNil)) tNil))))))
  (tDrop (tBM K "list" rAppend (tVar 6) (tCons (tCB (rTupOf K) (tCons (tVar 8) tNil)) tNil)))))))
  (tRet (tTup (tCons (tMG tyF (rIdxT K) (tOp (rIxL K) (tVar 3) (tOp (rIxT K) (tOp (rIxT K) (tOp (rIxT K) (tVar 0) (tC (.int 2))) (tVar 2)) (tVar 1))) (tCons (tVar 1) tNil)) (tCons (tCB (rTupOf K) (tCons (tVar 5) tNil)) (tCons (tCB (rTupOf K) (tCons (tVar 6) tNil)) tNil))))))))))
theorem der_Ltold_rule {P : Program} {w : World} {K : PySem.W.Frag} {mg : PySem.Str → Option Value} {base : Heap} (B : Bi mg) (C_Lcounterparts : Cal P w K mg base "_law_counterparts" 2 ["_law_system_here", "_law_state", "_law_command"] spLCounterparts) (f : Addr) (cdv : Value) (A : Around) (outer : List Env) (s : Shared) (H : Hp) (E : XK)
    (hr : Room 2 (A.deeper (envOfC "_law_told_rule" (defScope s_Ltold_rule) s.heap.objs.size f cdv))) : PSs (cxOf CX0 P w K mg base N_Ltold_rule "_law_told_rule" (defScope s_Ltold_rule) f cdv A outer s H E).nox (defBody s_Ltold_rule) (t_Ltold_rule K) := by
  have nd : (N_Ltold_rule).Nodup := sc_Ltold_rule.nd
  exact (pss_cons (ps_set (i := 3) nd rfl (by first | exact Or.inl rfl | exact Or.inr rfl) (pe_cal C_Lcounterparts hr (by rfl) (pa_cons (pv 0) (pa_cons (pv 1) (pa_cons (pv 2) pa_nil)))))
    (pss_cons (ps_set (i := 4) nd rfl (by first | exact Or.inl rfl | exact Or.inr rfl) (pe_callB (cr_max rfl) (by rfl) B.max_ bb_max (pa_cons (pe_lc (own := [("_law_row", 10)]) rfl nd (pi_list (pv 3)) (blkOk_by (N := N_Ltold_rule) (sc := (defScope s_Ltold_rule)) (by decide +kernel)) (fun _ _ _ _ _ => (pg_name (i := 10) nd rfl (by first | exact Or.inl rfl | exact Or.inr rfl))) (fun _ _ _ _ _ => pts_nil) (fun _ _ _ _ _ => (pe_callB call_ln (by rfl) B.len bb_len (pa_cons (pv 10) pa_nil)))) pa_nil)))
    (pss_cons (ps_set (i := 5) nd rfl (by first | exact Or.inl rfl | exact Or.inr rfl) (pe_lst pa_nil))
    (pss_cons (ps_set (i := 6) nd rfl (by first | exact Or.inl rfl | exact Or.inr rfl) (pe_lst pa_nil))
    (pss_cons (ps_for PassesOwn.never rfl (pi_range1 (by rfl) B.range (pa_cons (pe_ix ix_tup (pv 0) pe_int (fun _ _ => rfl)) pa_nil)) (pg_name (i := 7) nd rfl (by first | exact Or.inl rfl | exact Or.inr rfl)) (pss_cons (ps_expr (pe_bm PySem.F.plainAttrs_list PySem.F.slot_list_append PySem.F.type_list_append mt_append (pv 5) (pa_cons (pe_op op_catA (pe_ix ix_list (pv 3) (pv 7) (fun _ _ => rfl)) (pe_op op_repA (pe_tup (pa_cons pe_int pa_nil)) (pe_op op_sub (pv 4) (pe_callB call_ln (by rfl) B.len bb_len (pa_cons (pe_ix ix_list (pv 3) (pv 7) (fun _ _ => rfl)) pa_nil))))) pa_nil)))
    (pss_cons (ps_set (i := 8) nd rfl (by first | exact Or.inl rfl | exact Or.inr rfl) (pe_lst pa_nil))
    (pss_cons (ps_for PassesOwn.never rfl (pi_range1 (by rfl) B.range (pa_cons (pv 4) pa_nil)) (pg_name (i := 9) nd rfl (by first | exact Or.inl rfl | exact Or.inr rfl)) (pss_cons (ps_set (i := 10) nd rfl (by first | exact Or.inl rfl | exact Or.inr rfl) (pe_lst pa_nil))
    (pss_cons (ps_for PassesOwn.never rfl (pi_tup (pe_ix ix_tup (pv 0) pe_int (fun _ _ => rfl))) (pg_name (i := 11) nd rfl (by first | exact Or.inl rfl | exact Or.inr rfl)) (pss_one (ps_if (pt_cmpR op_lt (pv 9) (pe_callB call_ln (by rfl) B.len bb_len (pa_cons (pe_ix ix_list (pv 3) (pv 7) (fun _ _ => rfl)) pa_nil)) (nomark _)) (pss_one (ps_expr (pe_bm PySem.F.plainAttrs_list PySem.F.slot_list_append PySem.F.type_list_append mt_append (pv 10) (pa_cons (pe_mG ty_F PySem.F.plainAttrs_tuple PySem.F.slot_tuple_index PySem.F.type_tuple_index mt_idxT (pe_ix ix_list (pv 3) (pe_ix ix_tup (pv 11) (pv 7) (fun _ _ => rfl)) (fun _ _ => rfl)) (pa_cons (pe_ix ix_tup (pv 11) (pe_ix ix_tup (pe_ix ix_list (pv 3) (pv 7) (fun _ _ => rfl)) (pv 9) (fun _ _ => rfl)) (fun _ _ => rfl)) pa_nil)) pa_nil)))) (pss_one (ps_expr (pe_bm PySem.F.plainAttrs_list PySem.F.slot_list_append PySem.F.type_list_append mt_append (pv 10) (pa_cons pe_int pa_nil)))))))
    (pss_one (ps_expr (pe_bm PySem.F.plainAttrs_list PySem.F.slot_list_append PySem.F.type_list_append mt_append (pv 8) (pa_cons (pe_callTy call_tof (by rfl) B.tuple_ bb_tuple (pa_cons (pv 10) pa_nil)) pa_nil)))))))
    (pss_one (ps_expr (pe_bm PySem.F.plainAttrs_list PySem.F.slot_list_append PySem.F.type_list_append mt_append (pv 6) (pa_cons (pe_callTy call_tof (by rfl) B.tuple_ bb_tuple (pa_cons (pv 8) pa_nil)) pa_nil))))))))
    (pss_one (ps_ret (pe_tup (pa_cons (pe_mG ty_F PySem.F.plainAttrs_tuple PySem.F.slot_tuple_index PySem.F.type_tuple_index mt_idxT (pe_ix ix_list (pv 3) (pe_ix ix_tup (pe_ix ix_tup (pe_ix ix_tup (pv 0) pe_int (fun _ _ => rfl)) (pv 2) (fun _ _ => rfl)) (pv 1) (fun _ _ => rfl)) (fun _ _ => rfl)) (pa_cons (pv 1) pa_nil)) (pa_cons (pe_callTy call_tof (by rfl) B.tuple_ bb_tuple (pa_cons (pv 5) pa_nil)) (pa_cons (pe_callTy call_tof (by rfl) B.tuple_ bb_tuple (pa_cons (pv 6) pa_nil)) pa_nil)))))))))))
theorem cal_Ltold_rule {P : Program} {w : World} {K : PySem.W.Frag} {mg : PySem.Str → Option Value} {base : Heap} (D : DefAt K mg "_law_told_rule" s_Ltold_rule) (B : Bi mg) (C_Lcounterparts : Cal P w K mg base "_law_counterparts" 2 ["_law_system_here", "_law_state", "_law_command"] spLCounterparts)
    (len : ∀ vs H Q E, spTold vs H Q E → vs.length = 3) (rd : ∀ vs H Q E, spTold vs H Q E → t_Ltold_rule K { nx := fun _ H' => Q .non H', rt := Q } (start N_Ltold_rule vs) H) : Cal P w K mg base "_law_told_rule" 3 ["_law_system_here", "_law_state", "_law_command"] spTold :=
  cal_of D sc_Ltold_rule (fun _ _ _ _ _ _ us hl => match us, hl with | [_, _, _], _ => rfl) (fun f cdv A outer s H E hr => der_Ltold_rule B C_Lcounterparts f cdv A outer s H E hr) len rd
abbrev N_Ldrawn_rule : List PySem.Str := ["_law_stream_here", "_law_system_here", "_law_many", "_law_results", "_law_nexts", "_law_x", "_law_note", "_law_table"]
theorem sc_Ldrawn_rule : FnScope N_Ldrawn_rule ["_law_stream_here", "_law_system_here", "_law_many"] (defScope s_Ldrawn_rule) := ⟨rfl, rfl, rfl, by decide +kernel, rfl, by decide +kernel, by decide +kernel⟩
def t_Ldrawn_rule (K : PySem.W.Frag) : TS := (tSeq (tAsg (tCB (rTupOf K) (tCons (tLc (iRng1 (tCons (tOp (rIxT K) (tVar 1) (tC (.int 0))) tNil)) (gName 5) tYes (tCB (rTupOf K) (tCons (tLc (iRng1 (tCons (tVar 2) tNil)) (gName 6) tYes (tCall spNext [] E0 (tCons (tVar 0) (tCons (tOp (rIxT K) (tVar 1) (tC (.int 0))) tNil))) [6]) tNil)) [5]) tNil)) (gName 3))
  (tSeq (tAsg (tLst tNil) (gName 4))
  (tSeq (tFor (iRng1 (tCons (tOp (rIxT K) (tVar 1) (tC (.int 0))) tNil)) (gName 5) (tDrop (tBM K "list" rAppend (tVar 4) (tCons (tCB (rTupOf K) (tCons (tLc (iRng1 (tCons (tVar 2) tNil)) (gName 6) tYes (tCB (rTupOf K) (tCons (tLc (iTup K (tOp (rIxT K) (tVar 1) (tC (.int 2)))) (gName 7) tYes (tCall spNext [] E0 (tCons (tVar 0) (tCons (tVar 2) tNil))) [7]) tNil)) [6]) tNil)) tNil))))
  (tRet (tTup (tCons (tCall spNext [] E0 (tCons (tVar 0) (tCons (tVar 2) tNil))) (tCons (tVar 3) (tCons (tCB (rTupOf K) (tCons (tVar 4) tNil)) tNil))))))))
theorem der_Ldrawn_rule {P : Program} {w : World} {K : PySem.W.Frag} {mg : PySem.Str → Option Value} {base : Heap} (B : Bi mg) (C_Lnext : Cal P w K mg base "_law_next" 1 ["_law_stream_here", "_law_many"] spNext) (f : Addr) (cdv : Value) (A : Around) (outer : List Env) (s : Shared) (H : Hp) (E : XK)
    (hr : Room 1 (A.deeper (envOfC "_law_drawn_rule" (defScope s_Ldrawn_rule) s.heap.objs.size f cdv))) : PSs (cxOf CX0 P w K mg base N_Ldrawn_rule "_law_drawn_rule" (defScope s_Ldrawn_rule) f cdv A outer s H E).nox (defBody s_Ldrawn_rule) (t_Ldrawn_rule K) := by
  have nd : (N_Ldrawn_rule).Nodup := sc_Ldrawn_rule.nd
  exact (pss_cons (ps_set (i := 3) nd rfl (by first | exact Or.inl rfl | exact Or.inr rfl) (pe_callTy call_tof (by rfl) B.tuple_ bb_tuple (pa_cons (pe_lc (own := [("_law_x", 5)]) rfl nd (pi_range1 (by rfl) B.range (pa_cons (pe_ix ix_tup (pv 1) pe_int (fun _ _ => rfl)) pa_nil)) (blkOk_by (N := N_Ldrawn_rule) (sc := (defScope s_Ldrawn_rule)) (by decide +kernel)) (fun _ _ _ _ _ => (pg_name (i := 5) nd rfl (by first | exact Or.inl rfl | exact Or.inr rfl))) (fun _ _ _ _ _ => pts_nil) (fun _ _ _ _ _ => (pe_callTy call_tof (by rfl) B.tuple_ bb_tuple (pa_cons (pe_lc (own := [("_law_note", 6)]) rfl nd (pi_range1 (by rfl) B.range (pa_cons (pv 2) pa_nil)) (blkOk_by (N := N_Ldrawn_rule) (sc := (relS _ (defScope s_Ldrawn_rule))) (by decide +kernel)) (fun _ _ _ _ _ => (pg_name (i := 6) nd rfl (by first | exact Or.inl rfl | exact Or.inr rfl))) (fun _ _ _ _ _ => pts_nil) (fun _ _ _ _ _ => (pe_cal C_Lnext hr (by rfl) (pa_cons (pv 0) (pa_cons (pe_ix ix_tup (pv 1) pe_int (fun _ _ => rfl)) pa_nil))))) pa_nil)))) pa_nil)))
    (pss_cons (ps_set (i := 4) nd rfl (by first | exact Or.inl rfl | exact Or.inr rfl) (pe_lst pa_nil))
    (pss_cons (ps_for PassesOwn.never rfl (pi_range1 (by rfl) B.range (pa_cons (pe_ix ix_tup (pv 1) pe_int (fun _ _ => rfl)) pa_nil)) (pg_name (i := 5) nd rfl (by first | exact Or.inl rfl | exact Or.inr rfl)) (pss_one (ps_expr (pe_bm PySem.F.plainAttrs_list PySem.F.slot_list_append PySem.F.type_list_append mt_append (pv 4) (pa_cons (pe_callTy call_tof (by rfl) B.tuple_ bb_tuple (pa_cons (pe_lc (own := [("_law_note", 6)]) rfl nd (pi_range1 (by rfl) B.range (pa_cons (pv 2) pa_nil)) (blkOk_by (N := N_Ldrawn_rule) (sc := (defScope s_Ldrawn_rule)) (by decide +kernel)) (fun _ _ _ _ _ => (pg_name (i := 6) nd rfl (by first | exact Or.inl rfl | exact Or.inr rfl))) (fun _ _ _ _ _ => pts_nil) (fun _ _ _ _ _ => (pe_callTy call_tof (by rfl) B.tuple_ bb_tuple (pa_cons (pe_lc (own := [("_law_table", 7)]) rfl nd (pi_tup (pe_ix ix_tup (pv 1) pe_int (fun _ _ => rfl))) (blkOk_by (N := N_Ldrawn_rule) (sc := (relS _ (defScope s_Ldrawn_rule))) (by decide +kernel)) (fun _ _ _ _ _ => (pg_name (i := 7) nd rfl (by first | exact Or.inl rfl | exact Or.inr rfl))) (fun _ _ _ _ _ => pts_nil) (fun _ _ _ _ _ => (pe_cal C_Lnext hr (by rfl) (pa_cons (pv 0) (pa_cons (pv 2) pa_nil))))) pa_nil)))) pa_nil)) pa_nil)))))
    (pss_one (ps_ret (pe_tup (pa_cons (pe_cal C_Lnext hr (by rfl) (pa_cons (pv 0) (pa_cons (pv 2) pa_nil))) (pa_cons (pv 3) (pa_cons (pe_callTy call_tof (by rfl) B.tuple_ bb_tuple (pa_cons (pv 4) pa_nil)) pa_nil)))))))))
theorem cal_Ldrawn_rule {P : Program} {w : World} {K : PySem.W.Frag} {mg : PySem.Str → Option Value} {base : Heap} (D : DefAt K mg "_law_drawn_rule" s_Ldrawn_rule) (B : Bi mg) (C_Lnext : Cal P w K mg base "_law_next" 1 ["_law_stream_here", "_law_many"] spNext)
    (len : ∀ vs H Q E, spDrawn vs H Q E → vs.length = 3) (rd : ∀ vs H Q E, spDrawn vs H Q E → t_Ldrawn_rule K { nx := fun _ H' => Q .non H', rt := Q } (start N_Ldrawn_rule vs) H) : Cal P w K mg base "_law_drawn_rule" 2 ["_law_stream_here", "_law_system_here", "_law_many"] spDrawn :=
  cal_of D sc_Ldrawn_rule (fun _ _ _ _ _ _ us hl => match us, hl with | [_, _, _], _ => rfl) (fun f cdv A outer s H E hr => der_Ldrawn_rule B C_Lnext f cdv A outer s H E hr) len rd
abbrev N_Lwith : List PySem.Str := ["_law_rows", "_law_at", "_law_row"]
theorem sc_Lwith : FnScope N_Lwith ["_law_rows", "_law_at", "_law_row"] (defScope s_Lwith) := ⟨rfl, rfl, rfl, by decide +kernel, rfl, by decide +kernel, by decide +kernel⟩
def t_Lwith (K : PySem.W.Frag) : TS := (tRet (tOp (rCatA K) (tOp (rCatA K) (tSl (rSlA K) (tVar 0) tNoPart (tPart (tVar 1))) (tTup (tCons (tVar 2) tNil))) (tSl (rSlA K) (tVar 0) (tPart (tOp rAddI (tVar 1) (tC (.int 1)))) tNoPart)))
theorem der_Lwith {P : Program} {w : World} {K : PySem.W.Frag} {mg : PySem.Str → Option Value} {base : Heap} (B : Bi mg)  (f : Addr) (cdv : Value) (A : Around) (outer : List Env) (s : Shared) (H : Hp) (E : XK)
    (hr : Room 0 (A.deeper (envOfC "_law_with" (defScope s_Lwith) s.heap.objs.size f cdv))) : PSs (cxOf CX0 P w K mg base N_Lwith "_law_with" (defScope s_Lwith) f cdv A outer s H E).nox (defBody s_Lwith) (t_Lwith K) := by
  have nd : (N_Lwith).Nodup := sc_Lwith.nd
  exact (pss_one (ps_ret (pe_op op_catA (pe_op op_catA (pe_slice sl_tupA (pv 0) po_none (po_some (pv 1))) (pe_tup (pa_cons (pv 2) pa_nil))) (pe_slice sl_tupA (pv 0) (po_some (pe_op op_add (pv 1) pe_int)) po_none))))
theorem cal_Lwith {P : Program} {w : World} {K : PySem.W.Frag} {mg : PySem.Str → Option Value} {base : Heap} (D : DefAt K mg "_law_with" s_Lwith) (B : Bi mg) 
    (len : ∀ vs H Q E, spWith vs H Q E → vs.length = 3) (rd : ∀ vs H Q E, spWith vs H Q E → t_Lwith K { nx := fun _ H' => Q .non H', rt := Q } (start N_Lwith vs) H) : Cal P w K mg base "_law_with" 1 ["_law_rows", "_law_at", "_law_row"] spWith :=
  cal_of D sc_Lwith (fun _ _ _ _ _ _ us hl => match us, hl with | [_, _, _], _ => rfl) (fun f cdv A outer s H E hr => der_Lwith B  f cdv A outer s H E hr) len rd
abbrev N_Lbent : List PySem.Str := ["_law_stream_here", "_law_system_here", "_law_rule", "_law_initial", "_law_results", "_law_nexts", "_law_many", "_law_x", "_law_note", "_law_pick", "_law_row"]
theorem sc_Lbent : FnScope N_Lbent ["_law_stream_here", "_law_system_here", "_law_rule"] (defScope s_Lbent) := ⟨rfl, rfl, rfl, by decide +kernel, rfl, by decide +kernel, by decide +kernel⟩
def t_Lbent (K : PySem.W.Frag) : TS := (tSeq (tAsg (tVar 2) (gTup K 3 (gCons (gName 3) (gCons (gName 4) (gCons (gName 5) gNil)))))
  (tSeq (tAsg (tCB (rLn K) (tCons (tOp (rIxT K) (tVar 4) (tC (.int 0))) tNil)) (gName 6))
  (tSeq (tAsg (tCall spNext [] E0 (tCons (tVar 0) (tCons (tOp (rIxT K) (tVar 1) (tC (.int 0))) tNil))) (gName 7))
  (tSeq (tAsg (tCall spNext [] E0 (tCons (tVar 0) (tCons (tVar 6) tNil))) (gName 8))
  (tSeq (tAsg (tCall spNext [] E0 (tCons (tVar 0) (tCons (tC (.int 3)) tNil))) (gName 9))
  (tSeq (tIfS (tTest (tOp rEq (tVar 9) (tC (.int 0)))) (tRet (tTup (tCons (tCall spNext [] E0 (tCons (tVar 0) (tCons (tVar 6) tNil))) (tCons (tVar 4) (tCons (tVar 5) tNil))))) tNext)
  (tSeq (tIfS (tTest (tOp rEq (tVar 9) (tC (.int 1)))) (tRet (tTup (tCons (tVar 3) (tCons (tCall spWith [] E0 (tCons (tVar 4) (tCons (tVar 7) (tCons (tCall spWith [] E0 (tCons (tOp (rIxT K) (tVar 4) (tVar 7)) (tCons (tVar 8) (tCons (tCall spNext [] E0 (tCons (tVar 0) (tCons (tOp (rIxT K) (tVar 1) (tC (.int 0))) tNil))) tNil)))) tNil)))) (tCons (tVar 5) tNil))))) tNext)
  (tSeq (tAsg (tCall spWith [] E0 (tCons (tOp (rIxT K) (tOp (rIxT K) (tVar 5) (tVar 7)) (tVar 8)) (tCons (tCall spNext [] E0 (tCons (tVar 0) (tCons (tCB (rLn K) (tCons (tOp (rIxT K) (tVar 1) (tC (.int 2))) tNil)) tNil))) (tCons (tCall spNext [] E0 (tCons (tVar 0) (tCons (tVar 6) tNil))) tNil)))) (gName 10))
  (tRet (tTup (tCons (tVar 3) (tCons (tVar 4) (tCons (tCall spWith [] E0 (tCons (tVar 5) (tCons (tVar 7) (tCons (tCall spWith [] E0 (tCons (tOp (rIxT K) (tVar 5) (tVar 7)) (tCons (tVar 8) (tCons (tVar 10) tNil)))) tNil)))) tNil)))))))))))))
theorem der_Lbent {P : Program} {w : World} {K : PySem.W.Frag} {mg : PySem.Str → Option Value} {base : Heap} (B : Bi mg) (C_Lnext : Cal P w K mg base "_law_next" 1 ["_law_stream_here", "_law_many"] spNext) (C_Lwith : Cal P w K mg base "_law_with" 1 ["_law_rows", "_law_at", "_law_row"] spWith) (f : Addr) (cdv : Value) (A : Around) (outer : List Env) (s : Shared) (H : Hp) (E : XK)
    (hr : Room 1 (A.deeper (envOfC "_law_bent" (defScope s_Lbent) s.heap.objs.size f cdv))) : PSs (cxOf CX0 P w K mg base N_Lbent "_law_bent" (defScope s_Lbent) f cdv A outer s H E).nox (defBody s_Lbent) (t_Lbent K) := by
  have nd : (N_Lbent).Nodup := sc_Lbent.nd
  exact (pss_cons (ps_asg (pv 2) (pg_tup (by rfl) (pgs_cons (pg_name (i := 3) nd rfl (by first | exact Or.inl rfl | exact Or.inr rfl)) (pgs_cons (pg_name (i := 4) nd rfl (by first | exact Or.inl rfl | exact Or.inr rfl)) (pgs_cons (pg_name (i := 5) nd rfl (by first | exact Or.inl rfl | exact Or.inr rfl)) pgs_nil)))))
    (pss_cons (ps_set (i := 6) nd rfl (by first | exact Or.inl rfl | exact Or.inr rfl) (pe_callB call_ln (by rfl) B.len bb_len (pa_cons (pe_ix ix_tup (pv 4) pe_int (fun _ _ => rfl)) pa_nil)))
    (pss_cons (ps_set (i := 7) nd rfl (by first | exact Or.inl rfl | exact Or.inr rfl) (pe_cal C_Lnext hr (by rfl) (pa_cons (pv 0) (pa_cons (pe_ix ix_tup (pv 1) pe_int (fun _ _ => rfl)) pa_nil))))
    (pss_cons (ps_set (i := 8) nd rfl (by first | exact Or.inl rfl | exact Or.inr rfl) (pe_cal C_Lnext hr (by rfl) (pa_cons (pv 0) (pa_cons (pv 6) pa_nil))))
    (pss_cons (ps_set (i := 9) nd rfl (by first | exact Or.inl rfl | exact Or.inr rfl) (pe_cal C_Lnext hr (by rfl) (pa_cons (pv 0) (pa_cons pe_int pa_nil))))
    (pss_cons (ps_if (pt_cmpR op_eq (pv 9) pe_int (nomark _)) (pss_one (ps_ret (pe_tup (pa_cons (pe_cal C_Lnext hr (by rfl) (pa_cons (pv 0) (pa_cons (pv 6) pa_nil))) (pa_cons (pv 4) (pa_cons (pv 5) pa_nil)))))) pss_nil)
    (pss_cons (ps_if (pt_cmpR op_eq (pv 9) pe_int (nomark _)) (pss_one (ps_ret (pe_tup (pa_cons (pv 3) (pa_cons (pe_cal C_Lwith hr (by rfl) (pa_cons (pv 4) (pa_cons (pv 7) (pa_cons (pe_cal C_Lwith hr (by rfl) (pa_cons (pe_ix ix_tup (pv 4) (pv 7) (fun _ _ => rfl)) (pa_cons (pv 8) (pa_cons (pe_cal C_Lnext hr (by rfl) (pa_cons (pv 0) (pa_cons (pe_ix ix_tup (pv 1) pe_int (fun _ _ => rfl)) pa_nil))) pa_nil)))) pa_nil)))) (pa_cons (pv 5) pa_nil)))))) pss_nil)
    (pss_cons (ps_set (i := 10) nd rfl (by first | exact Or.inl rfl | exact Or.inr rfl) (pe_cal C_Lwith hr (by rfl) (pa_cons (pe_ix ix_tup (pe_ix ix_tup (pv 5) (pv 7) (fun _ _ => rfl)) (pv 8) (fun _ _ => rfl)) (pa_cons (pe_cal C_Lnext hr (by rfl) (pa_cons (pv 0) (pa_cons (pe_callB call_ln (by rfl) B.len bb_len (pa_cons (pe_ix ix_tup (pv 1) pe_int (fun _ _ => rfl)) pa_nil)) pa_nil))) (pa_cons (pe_cal C_Lnext hr (by rfl) (pa_cons (pv 0) (pa_cons (pv 6) pa_nil))) pa_nil)))))
    (pss_one (ps_ret (pe_tup (pa_cons (pv 3) (pa_cons (pv 4) (pa_cons (pe_cal C_Lwith hr (by rfl) (pa_cons (pv 5) (pa_cons (pv 7) (pa_cons (pe_cal C_Lwith hr (by rfl) (pa_cons (pe_ix ix_tup (pv 5) (pv 7) (fun _ _ => rfl)) (pa_cons (pv 8) (pa_cons (pv 10) pa_nil)))) pa_nil)))) pa_nil))))))))))))))
theorem cal_Lbent {P : Program} {w : World} {K : PySem.W.Frag} {mg : PySem.Str → Option Value} {base : Heap} (D : DefAt K mg "_law_bent" s_Lbent) (B : Bi mg) (C_Lnext : Cal P w K mg base "_law_next" 1 ["_law_stream_here", "_law_many"] spNext) (C_Lwith : Cal P w K mg base "_law_with" 1 ["_law_rows", "_law_at", "_law_row"] spWith)
    (len : ∀ vs H Q E, spBent vs H Q E → vs.length = 3) (rd : ∀ vs H Q E, spBent vs H Q E → t_Lbent K { nx := fun _ H' => Q .non H', rt := Q } (start N_Lbent vs) H) : Cal P w K mg base "_law_bent" 2 ["_law_stream_here", "_law_system_here", "_law_rule"] spBent :=
  cal_of D sc_Lbent (fun _ _ _ _ _ _ us hl => match us, hl with | [_, _, _], _ => rfl) (fun f cdv A outer s H E hr => der_Lbent B C_Lnext C_Lwith f cdv A outer s H E hr) len rd
abbrev N_law : List PySem.Str := ["_law_script", "_law_stream_here", "_law_system_here", "_law_state", "_law_command", "_law_told", "_law_least", "_law_rules", "_law_rule", "_law_due", "_law_turn", "_law_good", "_law_odd", "_law_eight"]
theorem sc_law : FnScope N_law ["_law_script"] (defScope s_law) := ⟨rfl, rfl, rfl, by decide +kernel, rfl, by decide +kernel, by decide +kernel⟩
def t_law (K : PySem.W.Frag) : TS := (tSeq (tAsg (tCall (spStream K) [] E0 (tCons (tVar 0) tNil)) (gName 1))
  (tSeq (tAsg (tCall spSystem [] E0 (tCons (tVar 1) (tCons (tC (.int 4)) (tCons (tC (.int 3)) tNil)))) (gName 2))
  (tSeq (tAsg (tCall spNext [] E0 (tCons (tVar 1) (tCons (tOp (rIxT K) (tVar 2) (tC (.int 0))) tNil))) (gName 3))
  (tSeq (tAsg (tCall spNext [] E0 (tCons (tVar 1) (tCons (tCB (rLn K) (tCons (tOp (rIxT K) (tVar 2) (tC (.int 2))) tNil)) tNil))) (gName 4))
  (tSeq (tAsg (tCall spTold [] E0 (tCons (tVar 2) (tCons (tVar 3) (tCons (tVar 4) tNil)))) (gName 5))
  (tSeq (tAsg (tCall spLeastNotes [] E0 (tCons (tVar 2) (tCons (tVar 3) (tCons (tVar 4) tNil)))) (gName 6))
  (tSeq (tAsg (tOp rCat (tLst (tCons (tVar 5) tNil)) (tLc (iRng1 (tCons (tC (.int 4)) tNil)) (gName 10) tYes (tCall spBent [] E0 (tCons (tVar 1) (tCons (tVar 2) (tCons (tVar 5) tNil)))) [10])) (gName 7))
  (tSeq (tAsg (tOp rCat (tVar 7) (tLc (iRng1 (tCons (tC (.int 3)) tNil)) (gName 10) tYes (tCall spDrawn [] E0 (tCons (tVar 1) (tCons (tVar 2) (tCons (tOp rAddI (tC (.int 1)) (tCall spNext [] E0 (tCons (tVar 1) (tCons (tC (.int 3)) tNil)))) tNil)))) [10])) (gName 7))
  (tSeq (tFor (iList K (tVar 7)) (gName 8) (tSeq (tAsg (tCall spLWorks [] E0 (tCons (tVar 2) (tCons (tVar 3) (tCons (tVar 4) (tCons (tVar 8) tNil))))) (gName 9))
  (tIfS (tOr (tNot (tB (tCall spEqual [] E0 (tCons (tCall spAccepts [] E0 (tCons (tVar 2) (tCons (tVar 3) (tCons (tVar 4) (tCons (tVar 8) tNil))))) (tCons (tVar 9) tNil))))) (tAnd (tB (tVar 9)) (tTest (tOp rLtI (tCB (rLn K) (tCons (tOp (rIxT K) (tOp (rIxT K) (tVar 8) (tC (.int 1))) (tC (.int 0))) tNil)) (tVar 6))))) (tRet (tC (.bl false))) tNext)))
  (tSeq (tAsg (tTup (tCons (tC (.int 2)) (tCons (tC (.int 0)) (tCons (tTup (tCons (tTup (tCons (tC (.int 1)) (tCons (tC (.int 0)) tNil))) tNil)) tNil)))) (gName 10))
  (tSeq (tAsg (tTup (tCons (tC (.int 0)) (tCons (tTup (tCons (tTup (tCons (tC (.int 1)) tNil)) (tCons (tTup (tCons (tC (.int 0)) tNil)) tNil))) (tCons (tTup (tCons (tTup (tCons (tTup (tCons (tC (.int 0)) tNil)) tNil)) (tCons (tTup (tCons (tTup (tCons (tC (.int 0)) tNil)) tNil)) tNil))) tNil)))) (gName 11))
  (tSeq (tAsg (tLst (tCons (tC .non) (tCons (tSl (rSlA K) (tVar 11) tNoPart (tPart (tC (.int 2)))) (tCons (tCB (rListOf K) (tCons (tVar 11) tNil)) (tCons (tTup (tCons (tC (.int 0)) (tCons (tLst (tCons (tTup (tCons (tC (.int 1)) tNil)) (tCons (tTup (tCons (tC (.int 0)) tNil)) tNil))) (tCons (tOp (rIxT K) (tVar 11) (tC (.int 2))) tNil)))) (tCons (tTup (tCons (tC (.int 1)) (tCons (tOp (rIxT K) (tVar 11) (tC (.int 1))) (tCons (tOp (rIxT K) (tVar 11) (tC (.int 2))) tNil)))) (tCons (tTup (tCons (tC (.bl false)) (tCons (tOp (rIxT K) (tVar 11) (tC (.int 1))) (tCons (tOp (rIxT K) (tVar 11) (tC (.int 2))) tNil)))) (tCons (tTup (tCons (tC (.int 0)) (tCons (tTup (tCons (tTup (tCons (tC (.int 1)) tNil)) tNil)) (tCons (tOp (rIxT K) (tVar 11) (tC (.int 2))) tNil)))) (tCons (tTup (tCons (tC (.int 0)) (tCons (tTup (tCons (tTup (tCons (tC (.int 1)) tNil)) (tCons (tTup (tCons (tC (.int 2)) tNil)) tNil))) (tCons (tOp (rIxT K) (tVar 11) (tC (.int 2))) tNil)))) tNil))))))))) (gName 12))
  (tSeq (tAsg (tOp rCat (tVar 12) (tLst (tCons (tTup (tCons (tC (.int 0)) (tCons (tTup (tCons (tTup (tCons (tC (.int 1)) tNil)) (tCons (tTup (tCons (tC (.bl true)) tNil)) tNil))) (tCons (tOp (rIxT K) (tVar 11) (tC (.int 2))) tNil)))) (tCons (tTup (tCons (tC (.int 0)) (tCons (tTup (tCons (tTup tNil) (tCons (tTup tNil) tNil))) (tCons (tTup (tCons (tTup (tCons (tTup tNil) tNil)) (tCons (tTup (tCons (tTup tNil) tNil)) tNil))) tNil)))) (tCons (tTup (tCons (tC (.int 0)) (tCons (tOp (rIxT K) (tVar 11) (tC (.int 1))) (tCons (tTup (tCons (tTup (tCons (tTup (tCons (tC (.int 0)) tNil)) tNil)) tNil)) tNil)))) (tCons (tTup (tCons (tC (.int 0)) (tCons (tOp (rIxT K) (tVar 11) (tC (.int 1))) (tCons (tTup (tCons (tTup (tCons (tTup (tCons (tC (.int 0)) tNil)) tNil)) (tCons (tTup (tCons (tTup (tCons (tC (.int 1)) tNil)) tNil)) tNil))) tNil)))) (tCons (tTup (tCons (tC (.int 0)) (tCons (tOp (rIxT K) (tVar 11) (tC (.int 1))) (tCons (tTup (tCons (tTup (tCons (tTup (tCons (tC (.int 0)) tNil)) tNil)) (tCons (tTup (tCons (tTup tNil) tNil)) tNil))) tNil)))) tNil))))))) (gName 12))
  (tSeq (tAsg (tOp rCat (tVar 12) (tLst (tCons (tTup (tCons (tC (.int 0)) (tCons (tOp (rIxT K) (tVar 11) (tC (.int 1))) (tCons (tTup (tCons (tTup (tCons (tTup (tCons (tC (.int 0)) tNil)) tNil)) (tCons (tTup (tCons (tTup (tCons (tC (.bl false)) tNil)) tNil)) tNil))) tNil)))) (tCons (tTup (tCons (tC (.int 0)) (tCons (tTup (tCons (tOp (rRepA K) (tTup (tCons (tC (.int 1)) tNil)) (tC (.int 9))) (tCons (tOp (rRepA K) (tTup (tCons (tC (.int 0)) tNil)) (tC (.int 9))) tNil))) (tCons (tTup (tCons (tOp (rRepA K) (tTup (tCons (tTup (tCons (tC (.int 0)) tNil)) tNil)) (tC (.int 9))) (tCons (tOp (rRepA K) (tTup (tCons (tTup (tCons (tC (.int 0)) tNil)) tNil)) (tC (.int 9))) tNil))) tNil)))) (tCons (tTup (tCons (tC (.int 0)) (tCons (tTup (tCons (tTup (tCons (tC (.int 1)) tNil)) (tCons (tLst (tCons (tC (.int 0)) tNil)) tNil))) (tCons (tOp (rIxT K) (tVar 11) (tC (.int 2))) tNil)))) (tCons (tTup (tCons (tC (.int 0)) (tCons (tTup (tCons (tTup (tCons (tC (.int 1)) tNil)) (tCons (tTup (tCons (tC (.int 0)) (tCons (tC (.int 0)) tNil))) tNil))) (tCons (tOp (rIxT K) (tVar 11) (tC (.int 2))) tNil)))) (tCons (tOp (rCatA K) (tVar 11) (tTup (tCons (tC (.int 0)) tNil))) tNil))))))) (gName 12))
  (tSeq (tAsg (tOp rCat (tVar 12) (tLst (tCons (tTup (tCons (tC (.int 0)) (tCons (tOp (rIxT K) (tVar 11) (tC (.int 1))) (tCons (tTup (tCons (tTup (tCons (tTup (tCons (tC (.int 0)) tNil)) tNil)) (tCons (tTup (tCons (tLst (tCons (tC (.int 0)) tNil)) tNil)) tNil))) tNil)))) (tCons (tTup (tCons (tC (.int 0)) (tCons (tOp (rIxT K) (tVar 11) (tC (.int 1))) (tCons (tTup (tCons (tTup (tCons (tTup (tCons (tC (.int 0)) tNil)) tNil)) (tCons (tTup (tCons (tTup (tCons (tC (.int 0)) (tCons (tC (.int 0)) tNil))) tNil)) tNil))) tNil)))) (tCons (tTup (tCons (tC .non) (tCons (tOp (rIxT K) (tVar 11) (tC (.int 1))) (tCons (tOp (rIxT K) (tVar 11) (tC (.int 2))) tNil)))) (tCons (tTup (tCons (tC (.int 0)) (tCons (tTup (tCons (tTup (tCons (tC (.int 0)) tNil)) (tCons (tTup (tCons (tC (.int 1)) tNil)) tNil))) (tCons (tOp (rIxT K) (tVar 11) (tC (.int 2))) tNil)))) tNil)))))) (gName 12))
  (tSeq (tIfS (tNot (tB (tCall spEqual [] E0 (tCons (tCall spAccepts [] E0 (tCons (tVar 10) (tCons (tC (.int 0)) (tCons (tC (.int 0)) (tCons (tOp (rIxL K) (tVar 12) (tCall spNext [] E0 (tCons (tVar 1) (tCons (tC (.int 22)) tNil)))) tNil))))) (tCons (tC (.bl false)) tNil))))) (tRet (tC (.bl false))) tNext)
  (tSeq (tAsg (tTup (tCons (tC (.int 0)) (tCons (tTup (tCons (tOp (rRepA K) (tTup (tCons (tC (.int 1)) tNil)) (tC (.int 8))) (tCons (tOp (rRepA K) (tTup (tCons (tC (.int 0)) tNil)) (tC (.int 8))) tNil))) (tCons (tTup (tCons (tOp (rRepA K) (tTup (tCons (tTup (tCons (tC (.int 0)) tNil)) tNil)) (tC (.int 8))) (tCons (tOp (rRepA K) (tTup (tCons (tTup (tCons (tC (.int 0)) tNil)) tNil)) (tC (.int 8))) tNil))) tNil)))) (gName 13))
  (tRet (tAndV (tCall spEqual [] E0 (tCons (tCall spAccepts [] E0 (tCons (tVar 10) (tCons (tC (.int 0)) (tCons (tC (.int 0)) (tCons (tVar 11) tNil))))) (tCons (tC (.bl true)) tNil))) (tCall spEqual [] E0 (tCons (tCall spAccepts [] E0 (tCons (tVar 10) (tCons (tC (.int 0)) (tCons (tC (.int 0)) (tCons (tVar 13) tNil))))) (tCons (tC (.bl true)) tNil))))))))))))))))))))))
theorem der_law {P : Program} {w : World} {K : PySem.W.Frag} {mg : PySem.Str → Option Value} {base : Heap} (B : Bi mg) (C_Lstream : Cal P w K mg base "_law_stream" 1 ["_law_script"] (spStream K)) (C_Lsystem : Cal P w K mg base "_law_system" 2 ["_law_stream_here", "_law_most", "_law_commands"] spSystem) (C_Lnext : Cal P w K mg base "_law_next" 1 ["_law_stream_here", "_law_many"] spNext) (C_Ltold_rule : Cal P w K mg base "_law_told_rule" 3 ["_law_system_here", "_law_state", "_law_command"] spTold) (C_least_notes : Cal P w K mg base "least_notes" 5 ["system", "state", "command"] spLeastNotes) (C_Lbent : Cal P w K mg base "_law_bent" 2 ["_law_stream_here", "_law_system_here", "_law_rule"] spBent) (C_Ldrawn_rule : Cal P w K mg base "_law_drawn_rule" 2 ["_law_stream_here", "_law_system_here", "_law_many"] spDrawn) (C_Lworks : Cal P w K mg base "_law_works" 1 ["_law_system_here", "_law_state", "_law_command", "_law_rule"] spLWorks) (C_Lequal : Cal P w K mg base "_law_equal" 1 ["_law_actual", "_law_due"] spEqual) (C_accepts_rule : Cal P w K mg base "accepts_rule" 4 ["system", "state", "command", "value"] spAccepts) (f : Addr) (cdv : Value) (A : Around) (outer : List Env) (s : Shared) (H : Hp) (E : XK)
    (hr : Room 5 (A.deeper (envOfC "law" (defScope s_law) s.heap.objs.size f cdv))) : PSs (cxOf CX0 P w K mg base N_law "law" (defScope s_law) f cdv A outer s H E).nox (defBody s_law) (t_law K) := by
  have nd : (N_law).Nodup := sc_law.nd
  exact (pss_cons (ps_set (i := 1) nd rfl (by first | exact Or.inl rfl | exact Or.inr rfl) (pe_cal C_Lstream (hr.mono (by decide)) (by rfl) (pa_cons (pv 0) pa_nil)))
    (pss_cons (ps_set (i := 2) nd rfl (by first | exact Or.inl rfl | exact Or.inr rfl) (pe_cal C_Lsystem (hr.mono (by decide)) (by rfl) (pa_cons (pv 1) (pa_cons pe_int (pa_cons pe_int pa_nil)))))
    (pss_cons (ps_set (i := 3) nd rfl (by first | exact Or.inl rfl | exact Or.inr rfl) (pe_cal C_Lnext (hr.mono (by decide)) (by rfl) (pa_cons (pv 1) (pa_cons (pe_ix ix_tup (pv 2) pe_int (fun _ _ => rfl)) pa_nil))))
    (pss_cons (ps_set (i := 4) nd rfl (by first | exact Or.inl rfl | exact Or.inr rfl) (pe_cal C_Lnext (hr.mono (by decide)) (by rfl) (pa_cons (pv 1) (pa_cons (pe_callB call_ln (by rfl) B.len bb_len (pa_cons (pe_ix ix_tup (pv 2) pe_int (fun _ _ => rfl)) pa_nil)) pa_nil))))
    (pss_cons (ps_set (i := 5) nd rfl (by first | exact Or.inl rfl | exact Or.inr rfl) (pe_cal C_Ltold_rule (hr.mono (by decide)) (by rfl) (pa_cons (pv 2) (pa_cons (pv 3) (pa_cons (pv 4) pa_nil)))))
    (pss_cons (ps_set (i := 6) nd rfl (by first | exact Or.inl rfl | exact Or.inr rfl) (pe_cal C_least_notes hr (by rfl) (pa_cons (pv 2) (pa_cons (pv 3) (pa_cons (pv 4) pa_nil)))))
    (pss_cons (ps_set (i := 7) nd rfl (by first | exact Or.inl rfl | exact Or.inr rfl) (pe_op op_cat (pe_lst (pa_cons (pv 5) pa_nil)) (pe_lc (own := [("_law_turn", 10)]) rfl nd (pi_range1 (by rfl) B.range (pa_cons pe_int pa_nil)) (blkOk_by (N := N_law) (sc := (defScope s_law)) (by decide +kernel)) (fun _ _ _ _ _ => (pg_name (i := 10) nd rfl (by first | exact Or.inl rfl | exact Or.inr rfl))) (fun _ _ _ _ _ => pts_nil) (fun _ _ _ _ _ => (pe_cal C_Lbent (hr.mono (by decide)) (by rfl) (pa_cons (pv 1) (pa_cons (pv 2) (pa_cons (pv 5) pa_nil))))))))
    (pss_cons (ps_set (i := 7) nd rfl (by first | exact Or.inl rfl | exact Or.inr rfl) (pe_op op_cat (pv 7) (pe_lc (own := [("_law_turn", 10)]) rfl nd (pi_range1 (by rfl) B.range (pa_cons pe_int pa_nil)) (blkOk_by (N := N_law) (sc := (defScope s_law)) (by decide +kernel)) (fun _ _ _ _ _ => (pg_name (i := 10) nd rfl (by first | exact Or.inl rfl | exact Or.inr rfl))) (fun _ _ _ _ _ => pts_nil) (fun _ _ _ _ _ => (pe_cal C_Ldrawn_rule (hr.mono (by decide)) (by rfl) (pa_cons (pv 1) (pa_cons (pv 2) (pa_cons (pe_op op_add pe_int (pe_cal C_Lnext (hr.mono (by decide)) (by rfl) (pa_cons (pv 1) (pa_cons pe_int pa_nil)))) pa_nil))))))))
    (pss_cons (ps_for PassesOwn.never rfl (pi_list (pv 7)) (pg_name (i := 8) nd rfl (by first | exact Or.inl rfl | exact Or.inr rfl)) (pss_cons (ps_set (i := 9) nd rfl (by first | exact Or.inl rfl | exact Or.inr rfl) (pe_cal C_Lworks (hr.mono (by decide)) (by rfl) (pa_cons (pv 2) (pa_cons (pv 3) (pa_cons (pv 4) (pa_cons (pv 8) pa_nil))))))
    (pss_one (ps_if (PW.pt (pw_or (pt_not (pt_val (pe_cal C_Lequal (hr.mono (by decide)) (by rfl) (pa_cons (pe_cal C_accepts_rule (hr.mono (by decide)) (by rfl) (pa_cons (pv 2) (pa_cons (pv 3) (pa_cons (pv 4) (pa_cons (pv 8) pa_nil))))) (pa_cons (pv 9) pa_nil))))) (pw_or1 (PW.pt (pw_and (pt_val (pv 9)) (pw_and1 (pt_cmpR op_lt (pe_callB call_ln (by rfl) B.len bb_len (pa_cons (pe_ix ix_tup (pe_ix ix_tup (pv 8) pe_int (fun _ _ => rfl)) pe_int (fun _ _ => rfl)) pa_nil)) (pv 6) (nomark _)))))))) (pss_one (ps_ret pe_bl)) pss_nil))))
    (pss_cons (ps_set (i := 10) nd rfl (by first | exact Or.inl rfl | exact Or.inr rfl) (pe_tup (pa_cons pe_int (pa_cons pe_int (pa_cons (pe_tup (pa_cons (pe_tup (pa_cons pe_int (pa_cons pe_int pa_nil))) pa_nil)) pa_nil)))))
    (pss_cons (ps_set (i := 11) nd rfl (by first | exact Or.inl rfl | exact Or.inr rfl) (pe_tup (pa_cons pe_int (pa_cons (pe_tup (pa_cons (pe_tup (pa_cons pe_int pa_nil)) (pa_cons (pe_tup (pa_cons pe_int pa_nil)) pa_nil))) (pa_cons (pe_tup (pa_cons (pe_tup (pa_cons (pe_tup (pa_cons pe_int pa_nil)) pa_nil)) (pa_cons (pe_tup (pa_cons (pe_tup (pa_cons pe_int pa_nil)) pa_nil)) pa_nil))) pa_nil)))))
    (pss_cons (ps_set (i := 12) nd rfl (by first | exact Or.inl rfl | exact Or.inr rfl) (pe_lst (pa_cons pe_non (pa_cons (pe_slice sl_tupA (pv 11) po_none (po_some pe_int)) (pa_cons (pe_callTy call_lof (by rfl) B.list_ bb_list (pa_cons (pv 11) pa_nil)) (pa_cons (pe_tup (pa_cons pe_int (pa_cons (pe_lst (pa_cons (pe_tup (pa_cons pe_int pa_nil)) (pa_cons (pe_tup (pa_cons pe_int pa_nil)) pa_nil))) (pa_cons (pe_ix ix_tup (pv 11) pe_int (fun _ _ => rfl)) pa_nil)))) (pa_cons (pe_tup (pa_cons pe_int (pa_cons (pe_ix ix_tup (pv 11) pe_int (fun _ _ => rfl)) (pa_cons (pe_ix ix_tup (pv 11) pe_int (fun _ _ => rfl)) pa_nil)))) (pa_cons (pe_tup (pa_cons pe_bl (pa_cons (pe_ix ix_tup (pv 11) pe_int (fun _ _ => rfl)) (pa_cons (pe_ix ix_tup (pv 11) pe_int (fun _ _ => rfl)) pa_nil)))) (pa_cons (pe_tup (pa_cons pe_int (pa_cons (pe_tup (pa_cons (pe_tup (pa_cons pe_int pa_nil)) pa_nil)) (pa_cons (pe_ix ix_tup (pv 11) pe_int (fun _ _ => rfl)) pa_nil)))) (pa_cons (pe_tup (pa_cons pe_int (pa_cons (pe_tup (pa_cons (pe_tup (pa_cons pe_int pa_nil)) (pa_cons (pe_tup (pa_cons pe_int pa_nil)) pa_nil))) (pa_cons (pe_ix ix_tup (pv 11) pe_int (fun _ _ => rfl)) pa_nil)))) pa_nil))))))))))
    (pss_cons (ps_set (i := 12) nd rfl (by first | exact Or.inl rfl | exact Or.inr rfl) (pe_op op_cat (pv 12) (pe_lst (pa_cons (pe_tup (pa_cons pe_int (pa_cons (pe_tup (pa_cons (pe_tup (pa_cons pe_int pa_nil)) (pa_cons (pe_tup (pa_cons pe_bl pa_nil)) pa_nil))) (pa_cons (pe_ix ix_tup (pv 11) pe_int (fun _ _ => rfl)) pa_nil)))) (pa_cons (pe_tup (pa_cons pe_int (pa_cons (pe_tup (pa_cons (pe_tup pa_nil) (pa_cons (pe_tup pa_nil) pa_nil))) (pa_cons (pe_tup (pa_cons (pe_tup (pa_cons (pe_tup pa_nil) pa_nil)) (pa_cons (pe_tup (pa_cons (pe_tup pa_nil) pa_nil)) pa_nil))) pa_nil)))) (pa_cons (pe_tup (pa_cons pe_int (pa_cons (pe_ix ix_tup (pv 11) pe_int (fun _ _ => rfl)) (pa_cons (pe_tup (pa_cons (pe_tup (pa_cons (pe_tup (pa_cons pe_int pa_nil)) pa_nil)) pa_nil)) pa_nil)))) (pa_cons (pe_tup (pa_cons pe_int (pa_cons (pe_ix ix_tup (pv 11) pe_int (fun _ _ => rfl)) (pa_cons (pe_tup (pa_cons (pe_tup (pa_cons (pe_tup (pa_cons pe_int pa_nil)) pa_nil)) (pa_cons (pe_tup (pa_cons (pe_tup (pa_cons pe_int pa_nil)) pa_nil)) pa_nil))) pa_nil)))) (pa_cons (pe_tup (pa_cons pe_int (pa_cons (pe_ix ix_tup (pv 11) pe_int (fun _ _ => rfl)) (pa_cons (pe_tup (pa_cons (pe_tup (pa_cons (pe_tup (pa_cons pe_int pa_nil)) pa_nil)) (pa_cons (pe_tup (pa_cons (pe_tup pa_nil) pa_nil)) pa_nil))) pa_nil)))) pa_nil))))))))
    (pss_cons (ps_set (i := 12) nd rfl (by first | exact Or.inl rfl | exact Or.inr rfl) (pe_op op_cat (pv 12) (pe_lst (pa_cons (pe_tup (pa_cons pe_int (pa_cons (pe_ix ix_tup (pv 11) pe_int (fun _ _ => rfl)) (pa_cons (pe_tup (pa_cons (pe_tup (pa_cons (pe_tup (pa_cons pe_int pa_nil)) pa_nil)) (pa_cons (pe_tup (pa_cons (pe_tup (pa_cons pe_bl pa_nil)) pa_nil)) pa_nil))) pa_nil)))) (pa_cons (pe_tup (pa_cons pe_int (pa_cons (pe_tup (pa_cons (pe_op op_repA (pe_tup (pa_cons pe_int pa_nil)) pe_int) (pa_cons (pe_op op_repA (pe_tup (pa_cons pe_int pa_nil)) pe_int) pa_nil))) (pa_cons (pe_tup (pa_cons (pe_op op_repA (pe_tup (pa_cons (pe_tup (pa_cons pe_int pa_nil)) pa_nil)) pe_int) (pa_cons (pe_op op_repA (pe_tup (pa_cons (pe_tup (pa_cons pe_int pa_nil)) pa_nil)) pe_int) pa_nil))) pa_nil)))) (pa_cons (pe_tup (pa_cons pe_int (pa_cons (pe_tup (pa_cons (pe_tup (pa_cons pe_int pa_nil)) (pa_cons (pe_lst (pa_cons pe_int pa_nil)) pa_nil))) (pa_cons (pe_ix ix_tup (pv 11) pe_int (fun _ _ => rfl)) pa_nil)))) (pa_cons (pe_tup (pa_cons pe_int (pa_cons (pe_tup (pa_cons (pe_tup (pa_cons pe_int pa_nil)) (pa_cons (pe_tup (pa_cons pe_int (pa_cons pe_int pa_nil))) pa_nil))) (pa_cons (pe_ix ix_tup (pv 11) pe_int (fun _ _ => rfl)) pa_nil)))) (pa_cons (pe_op op_catA (pv 11) (pe_tup (pa_cons pe_int pa_nil))) pa_nil))))))))
    (pss_cons (ps_set (i := 12) nd rfl (by first | exact Or.inl rfl | exact Or.inr rfl) (pe_op op_cat (pv 12) (pe_lst (pa_cons (pe_tup (pa_cons pe_int (pa_cons (pe_ix ix_tup (pv 11) pe_int (fun _ _ => rfl)) (pa_cons (pe_tup (pa_cons (pe_tup (pa_cons (pe_tup (pa_cons pe_int pa_nil)) pa_nil)) (pa_cons (pe_tup (pa_cons (pe_lst (pa_cons pe_int pa_nil)) pa_nil)) pa_nil))) pa_nil)))) (pa_cons (pe_tup (pa_cons pe_int (pa_cons (pe_ix ix_tup (pv 11) pe_int (fun _ _ => rfl)) (pa_cons (pe_tup (pa_cons (pe_tup (pa_cons (pe_tup (pa_cons pe_int pa_nil)) pa_nil)) (pa_cons (pe_tup (pa_cons (pe_tup (pa_cons pe_int (pa_cons pe_int pa_nil))) pa_nil)) pa_nil))) pa_nil)))) (pa_cons (pe_tup (pa_cons pe_non (pa_cons (pe_ix ix_tup (pv 11) pe_int (fun _ _ => rfl)) (pa_cons (pe_ix ix_tup (pv 11) pe_int (fun _ _ => rfl)) pa_nil)))) (pa_cons (pe_tup (pa_cons pe_int (pa_cons (pe_tup (pa_cons (pe_tup (pa_cons pe_int pa_nil)) (pa_cons (pe_tup (pa_cons pe_int pa_nil)) pa_nil))) (pa_cons (pe_ix ix_tup (pv 11) pe_int (fun _ _ => rfl)) pa_nil)))) pa_nil)))))))
    (pss_cons (ps_if (pt_not (pt_val (pe_cal C_Lequal (hr.mono (by decide)) (by rfl) (pa_cons (pe_cal C_accepts_rule (hr.mono (by decide)) (by rfl) (pa_cons (pv 10) (pa_cons pe_int (pa_cons pe_int (pa_cons (pe_ix ix_list (pv 12) (pe_cal C_Lnext (hr.mono (by decide)) (by rfl) (pa_cons (pv 1) (pa_cons pe_int pa_nil))) (fun _ _ => rfl)) pa_nil))))) (pa_cons pe_bl pa_nil))))) (pss_one (ps_ret pe_bl)) pss_nil)
    (pss_cons (ps_set (i := 13) nd rfl (by first | exact Or.inl rfl | exact Or.inr rfl) (pe_tup (pa_cons pe_int (pa_cons (pe_tup (pa_cons (pe_op op_repA (pe_tup (pa_cons pe_int pa_nil)) pe_int) (pa_cons (pe_op op_repA (pe_tup (pa_cons pe_int pa_nil)) pe_int) pa_nil))) (pa_cons (pe_tup (pa_cons (pe_op op_repA (pe_tup (pa_cons (pe_tup (pa_cons pe_int pa_nil)) pa_nil)) pe_int) (pa_cons (pe_op op_repA (pe_tup (pa_cons (pe_tup (pa_cons pe_int pa_nil)) pa_nil)) pe_int) pa_nil))) pa_nil)))))
    (pss_one (ps_ret (pe_and (pe_cal C_Lequal (hr.mono (by decide)) (by rfl) (pa_cons (pe_cal C_accepts_rule (hr.mono (by decide)) (by rfl) (pa_cons (pv 10) (pa_cons pe_int (pa_cons pe_int (pa_cons (pv 11) pa_nil))))) (pa_cons pe_bl pa_nil))) (pe_one (pe_cal C_Lequal (hr.mono (by decide)) (by rfl) (pa_cons (pe_cal C_accepts_rule (hr.mono (by decide)) (by rfl) (pa_cons (pv 10) (pa_cons pe_int (pa_cons pe_int (pa_cons (pv 13) pa_nil))))) (pa_cons pe_bl pa_nil))))))))))))))))))))))))
theorem cal_law {P : Program} {w : World} {K : PySem.W.Frag} {mg : PySem.Str → Option Value} {base : Heap} (D : DefAt K mg "law" s_law) (B : Bi mg) (C_Lstream : Cal P w K mg base "_law_stream" 1 ["_law_script"] (spStream K)) (C_Lsystem : Cal P w K mg base "_law_system" 2 ["_law_stream_here", "_law_most", "_law_commands"] spSystem) (C_Lnext : Cal P w K mg base "_law_next" 1 ["_law_stream_here", "_law_many"] spNext) (C_Ltold_rule : Cal P w K mg base "_law_told_rule" 3 ["_law_system_here", "_law_state", "_law_command"] spTold) (C_least_notes : Cal P w K mg base "least_notes" 5 ["system", "state", "command"] spLeastNotes) (C_Lbent : Cal P w K mg base "_law_bent" 2 ["_law_stream_here", "_law_system_here", "_law_rule"] spBent) (C_Ldrawn_rule : Cal P w K mg base "_law_drawn_rule" 2 ["_law_stream_here", "_law_system_here", "_law_many"] spDrawn) (C_Lworks : Cal P w K mg base "_law_works" 1 ["_law_system_here", "_law_state", "_law_command", "_law_rule"] spLWorks) (C_Lequal : Cal P w K mg base "_law_equal" 1 ["_law_actual", "_law_due"] spEqual) (C_accepts_rule : Cal P w K mg base "accepts_rule" 4 ["system", "state", "command", "value"] spAccepts)
    (len : ∀ vs H Q E, (spLaw K) vs H Q E → vs.length = 1) (rd : ∀ vs H Q E, (spLaw K) vs H Q E → t_law K { nx := fun _ H' => Q .non H', rt := Q } (start N_law vs) H) : Cal P w K mg base "law" 6 ["_law_script"] (spLaw K) :=
  cal_of D sc_law (fun _ _ _ _ _ _ us hl => match us, hl with | [_], _ => rfl) (fun f cdv A outer s H E hr => der_law B C_Lstream C_Lsystem C_Lnext C_Ltold_rule C_least_notes C_Lbent C_Ldrawn_rule C_Lworks C_Lequal C_accepts_rule f cdv A outer s H E hr) len rd
end Ub
set_option maxHeartbeats 4000000
/-! UbRdA: the readings of group A. -/
namespace Ub
open PySem PySem.Spec PyProof.Rows L2
section
variable {H : Hp} {vs : List V} {a b c d : Dt}
theorem RA.one (h : RA H vs [a]) : ∃ v, vs = [v] ∧ R H v a := by
  cases h with
  | cons r t => cases t; exact ⟨_, rfl, r⟩
theorem RA.two (h : RA H vs [a, b]) : ∃ v w, vs = [v, w] ∧ R H v a ∧ R H w b := by
  cases h with
  | cons r t =>
    obtain ⟨w, rfl, r2⟩ := t.one
    exact ⟨_, _, rfl, r, r2⟩
theorem RA.three (h : RA H vs [a, b, c]) : ∃ v w x, vs = [v, w, x] ∧ R H v a ∧ R H w b ∧ R H x c := by
  cases h with
  | cons r t =>
    obtain ⟨w, x, rfl, r2, r3⟩ := t.two
    exact ⟨_, _, _, rfl, r, r2, r3⟩
theorem RA.four (h : RA H vs [a, b, c, d]) : ∃ v w x y, vs = [v, w, x, y] ∧ R H v a ∧ R H w b ∧ R H x c ∧ R H y d := by
  cases h with
  | cons r t =>
    obtain ⟨w, x, y, rfl, r2, r3, r4⟩ := t.three
    exact ⟨_, _, _, _, rfl, r, r2, r3, r4⟩
end
section
variable {P : Program} {w : World} {K : PySem.W.Frag} {mg : PySem.Str → Option Value} {base : Heap} {σ : L2.St} {H : Hp} {ta tb : TE} {ds : List Dt} {d : Dt}
/-- t[k], k written -/
theorem e_ixC {k : Int} (n : Nat) (ha : Ev ta σ H (.tup ds)) (hn : ds[n]? = some d) (hk : k = (n : Int) := by rfl) : Ev (tOp (rIxT K) ta (tC (.int k))) σ H d := e_ixT ha (hk ▸ e_int) hn
theorem kit_int (d : Dt) : kitB d.ty "int" = some (match d with | .int _ => true | .bl _ => true | _ => false) := by
  cases d with
  | non => exact (by decide +kernel : kitB "NoneType" "int" = some false)
  | bl _ => exact (by decide +kernel : kitB "bool" "int" = some true)
  | int _ => exact (by decide +kernel : kitB "int" "int" = some true)
  | tup _ => exact (by decide +kernel : kitB "tuple" "int" = some false)
  | lst => exact (by decide +kernel : kitB "list" "int" = some false)
theorem kit_bool (d : Dt) : kitB d.ty "bool" = some (match d with | .bl _ => true | _ => false) := by
  cases d with
  | non => exact (by decide +kernel : kitB "NoneType" "bool" = some false)
  | bl _ => exact (by decide +kernel : kitB "bool" "bool" = some true)
  | int _ => exact (by decide +kernel : kitB "int" "bool" = some false)
  | tup _ => exact (by decide +kernel : kitB "tuple" "bool" = some false)
  | lst => exact (by decide +kernel : kitB "list" "bool" = some false)
theorem kit_tup (d : Dt) : kitB d.ty "tuple" = some (isTupB d) := by
  cases d with
  | non => exact (by decide +kernel : kitB "NoneType" "tuple" = some false)
  | bl _ => exact (by decide +kernel : kitB "bool" "tuple" = some false)
  | int _ => exact (by decide +kernel : kitB "int" "tuple" = some false)
  | tup _ => exact (by decide +kernel : kitB "tuple" "tuple" = some true)
  | lst => exact (by decide +kernel : kitB "list" "tuple" = some false)
theorem f_is_whole (D : DefAt K mg "is_whole" s_is_whole) (B : Bi mg) : Cal P w K mg base "is_whole" 1 ["value", "low", "high"] spIsWhole := by
  refine cal_is_whole D B (len_spP fun ds P ⟨x, lo, hi, e, _⟩ => by rw [e]; rfl) ?_
  rintro _ H Q E ⟨ds, P, r, ⟨x, lo, hi, rfl, hP⟩, q⟩
  obtain ⟨v0, v1, v2, rfl, r0, r1, r2⟩ := r.three
  refine s_ret (d := .bl (isWholeB x lo hi)) ?_ (fun v H1 s r => q v H1 _ s r hP)
  cases x with
  | int i => exact Ev.is (e_and (e_isi (e_var rfl r0) (kit_int _)) fun _ => e_and (e_not (e_isi (e_var rfl r0) (kit_bool _))) fun _ => e_chain (e_var rfl r1) (e_var rfl r0) (e_var rfl r2)) rfl
  | bl b => exact Ev.is (e_and (b := false) (e_isi (e_var rfl r0) (kit_int _)) fun _ => Ev.is (e_and (b := false) (e_not (e_isi (e_var rfl r0) (kit_bool _))) fun h => nomatch h) rfl) rfl
  | non => exact Ev.is (e_and (b := false) (e_isi (e_var rfl r0) (kit_int _)) fun h => nomatch h) rfl
  | tup l => exact Ev.is (e_and (b := false) (e_isi (e_var rfl r0) (kit_int _)) fun h => nomatch h) rfl
  | lst => exact Ev.is (e_and (b := false) (e_isi (e_var rfl r0) (kit_int _)) fun h => nomatch h) rfl
theorem f_is_index (D : DefAt K mg "is_index" s_is_index) (B : Bi mg) : Cal P w K mg base "is_index" 1 ["value", "count"] spIsIndex := by
  refine cal_is_index D B (len_spP fun ds P ⟨x, n, e, _⟩ => by rw [e]; rfl) ?_
  rintro _ H Q E ⟨ds, P, r, ⟨x, n, rfl, hP⟩, q⟩
  obtain ⟨v0, v1, rfl, r0, r1⟩ := r.two
  refine s_ret (d := .bl (isIndexB x n)) ?_ (fun v H1 s r => q v H1 _ s r hP)
  cases x with
  | int i => exact Ev.is (e_and (e_isi (e_var rfl r0) (kit_int _)) fun _ => e_and (e_not (e_isi (e_var rfl r0) (kit_bool _))) fun _ => e_chain e_int (e_var rfl r0) (e_var rfl r1)) rfl
  | bl b => exact Ev.is (e_and (b := false) (e_isi (e_var rfl r0) (kit_int _)) fun _ => Ev.is (e_and (b := false) (e_not (e_isi (e_var rfl r0) (kit_bool _))) fun h => nomatch h) rfl) rfl
  | non => exact Ev.is (e_and (b := false) (e_isi (e_var rfl r0) (kit_int _)) fun h => nomatch h) rfl
  | tup l => exact Ev.is (e_and (b := false) (e_isi (e_var rfl r0) (kit_int _)) fun h => nomatch h) rfl
  | lst => exact Ev.is (e_and (b := false) (e_isi (e_var rfl r0) (kit_int _)) fun h => nomatch h) rfl
theorem f_is_row (D : DefAt K mg "is_row" s_is_row) (B : Bi mg) : Cal P w K mg base "is_row" 1 ["value", "size"] spIsRow := by
  refine cal_is_row D B (len_spP fun ds P ⟨x, n, e, _⟩ => by rw [e]; rfl) ?_
  rintro _ H Q E ⟨ds, P, r, ⟨x, n, rfl, hP⟩, q⟩
  obtain ⟨v0, v1, rfl, r0, r1⟩ := r.two
  refine s_ret (d := .bl (isRowB x n)) ?_ (fun v H1 s r => q v H1 _ s r hP)
  cases x with
  | tup l => exact Ev.is (e_and (e_isi (e_var rfl r0) (kit_tup _)) fun _ => e_eqI (e_lenT (e_var rfl r0)) (e_var rfl r1)) rfl
  | int i => exact Ev.is (e_and (b := false) (e_isi (e_var rfl r0) (kit_tup _)) fun h => nomatch h) rfl
  | bl b => exact Ev.is (e_and (b := false) (e_isi (e_var rfl r0) (kit_tup _)) fun h => nomatch h) rfl
  | non => exact Ev.is (e_and (b := false) (e_isi (e_var rfl r0) (kit_tup _)) fun h => nomatch h) rfl
  | lst => exact Ev.is (e_and (b := false) (e_isi (e_var rfl r0) (kit_tup _)) fun h => nomatch h) rfl
theorem f_step (D : DefAt K mg "step" s_step) (B : Bi mg) : Cal P w K mg base "step" 1 ["system", "state", "command"] spStep := by
  refine cal_step D B (len_spP fun ds P ⟨S, x, c, _, _, _, e, _⟩ => by rw [e]; rfl) ?_
  rintro _ H Q E ⟨ds, P, r, ⟨S, x, c, ok, hx, hc, rfl, hP⟩, q⟩
  obtain ⟨v0, v1, v2, rfl, r0, r1, r2⟩ := r.three
  refine s_ret (d := natD (S.step x c)) ?_ (fun v H1 s r => q v H1 _ s r hP)
  refine e_ixT (n := x) (ds := (S.T.getD c []).map natD) (e_ixT (n := c) (e_ixC 2 (e_var rfl r0) rfl) (e_var rfl r2) ?_) (e_var rfl r1) ?_
  · rw [List.getElem?_map, (ok.row hc).1]
    rfl
  · rw [List.getElem?_map, ok.at_ hc hx]
    rfl
theorem e_allT {n : Nat} {tl te : TE} {vs : List Nat} {g : Dt → Bool} (h : Ev tl σ H (.tup ds)) (hw : ∀ x, wipe ((wipe σ vs).set n (some x)) vs = wipe σ vs) (hz : ds.length ≤ 5000)
    (he : ∀ (i : Nat) d v H1, Same H H1 → ds[i]? = some d → R H1 v d → Ev te ((wipe σ vs).set n (some v)) H1 (.bl (g d))) : Ev (tCB (rAll K) (tCons (tLc (iTup K tl) (gName n) tYes te vs) tNil)) σ H (.bl (ds.all g)) := by
  have h1 := l_lcT (K := K) (f := fun d => .bl (g d)) h hw hz he
  have e : ds.map (fun d => Dt.bl (g d)) = (ds.map g).map Dt.bl := by rw [List.map_map]; rfl
  rw [e] at h1
  exact Ev.is (e_all h1) (by rw [List.all_map]; rfl)
theorem isRow_of {x : Dt} {n : Int} (h : isRowB x n = true) : ∃ l, x = .tup l ∧ (l.length : Int) = n := by
  cases x with
  | tup l => exact ⟨l, rfl, of_decide_eq_true h⟩
  | _ => cases h
theorem at_get {l : List Dt} {i : Nat} (h : i < l.length) : l[i]? = some (at_ (.tup l) i) := (getD_of h).1
theorem nb {b : Bool} (h : (!b) = false) : b = true := by cases b <;> first | rfl | cases h
theorem f_is_state (D : DefAt K mg "is_state" s_is_state) (B : Bi mg) (C : Cal P w K mg base "is_whole" 1 ["value", "low", "high"] spIsWhole) : Cal P w K mg base "is_state" 2 ["system", "value"] spIsState := by
  refine cal_is_state D B C (len_spP fun ds P ⟨S, x, _, _, e, _⟩ => by rw [e]; rfl) ?_
  rintro _ H Q E ⟨ds, P, r, ⟨S, x, ok, hx, rfl, hP⟩, q⟩
  obtain ⟨v0, v1, rfl, r0, r1⟩ := r.two
  refine s_ret (d := .bl true) ?_ (fun v H1 s r => q v H1 _ s r hP)
  refine Ev.is (e_call (a_cons (e_var rfl r1) (a_cons e_int (a_cons (e_sub (e_ixC 0 (e_var rfl r0) rfl) e_int) a_nil))) ⟨_, _, _, rfl, rfl⟩) ?_
  show Dt.bl (decide ((0 : Int) ≤ x) && decide ((x : Int) ≤ (S.n : Int) - 1)) = _
  rw [decide_eq_true (by omega), decide_eq_true (by omega)]
  rfl
theorem f_is_command (D : DefAt K mg "is_command" s_is_command) (B : Bi mg) (C : Cal P w K mg base "is_whole" 1 ["value", "low", "high"] spIsWhole) : Cal P w K mg base "is_command" 2 ["system", "value"] spIsCommand := by
  refine cal_is_command D B C (len_spP fun ds P ⟨S, x, _, _, e, _⟩ => by rw [e]; rfl) ?_
  rintro _ H Q E ⟨ds, P, r, ⟨S, x, ok, hx, rfl, hP⟩, q⟩
  obtain ⟨v0, v1, rfl, r0, r1⟩ := r.two
  refine s_ret (d := .bl true) ?_ (fun v H1 s r => q v H1 _ s r hP)
  refine Ev.is (e_call (a_cons (e_var rfl r1) (a_cons e_int (a_cons (e_sub (e_lenT (e_ixC 2 (e_var rfl r0) rfl)) e_int) a_nil))) ⟨_, _, _, rfl, rfl⟩) ?_
  show Dt.bl (decide ((0 : Int) ≤ x) && decide ((x : Int) ≤ ((S.T.map rowD).length : Int) - 1)) = _
  rw [List.length_map, decide_eq_true (by omega), decide_eq_true (by omega)]
  rfl
theorem f_states_of (D : DefAt K mg "states_of" s_states_of) (B : Bi mg) : Cal P w K mg base "states_of" 1 ["system"] spStatesOf := by
  refine cal_states_of D B (fun vs H Q E ⟨S, _, r, _⟩ => by rw [r.length]; rfl) ?_
  rintro _ H Q E ⟨S, ok, r, q⟩
  obtain ⟨v0, rfl, r0⟩ := r.one
  have h : Ev (tOp (rIxT K) (tVar 0) (tC (.int 0))) (start N_states_of [v0]) H (natD S.n) := e_ixC 0 (e_var rfl r0) rfl
  refine h H (Same.refl H) _ fun v H1 s1 r1 => ⟨(S.n : Int), r1.int_eq, ⟨by omega, by omega, by have := ok.n4; omega, by have := ok.n4; omega, by have := ok.n4; omega⟩, fun p hp => ?_⟩
  have e : rgV 0 (S.n : Int) = ((List.range S.n).map fun n : Nat => (n : Int)).map V.int := by
    unfold rgV
    rw [List.map_map]
    have e1 : ((S.n : Int) - 0).toNat = S.n := by omega
    rw [e1]
    refine List.map_congr_left fun n _ => ?_
    show V.int (0 + (n : Int)) = V.int n
    rw [Int.zero_add]
  have e2 : ((List.range S.n).map natD) = ((List.range S.n).map fun n : Nat => (n : Int)).map Dt.int := by
    rw [List.map_map]
    rfl
  refine q p _ _ (s1.trans (same_new hp)) (s1.free hp) upd_same ?_
  rw [e, e2]
  exact RA.of_ints _
theorem f_check_action (D : DefAt K mg "check_action" s_check_action) (B : Bi mg) (C1 : Cal P w K mg base "is_system" 2 ["value"] spIsSystem) (C2 : Cal P w K mg base "is_state" 2 ["system", "value"] spIsState) (C3 : Cal P w K mg base "is_command" 2 ["system", "value"] spIsCommand) :
    Cal P w K mg base "check_action" 3 ["system", "state", "command"] spCheckAction := by
  refine cal_check_action D B C1 C2 C3 (len_spP fun ds P ⟨S, x, c, _, e, _⟩ => by rw [e]; rfl) ?_
  rintro _ H Q E ⟨ds, P, r, ⟨S, x, c, ac, rfl, hP⟩, q⟩
  obtain ⟨v0, v1, v2, rfl, r0, r1, r2⟩ := r.three
  refine q_if (b := false) (t_not (t_B (e_call (d := .bl true) (a_cons (e_var rfl r0) a_nil) ⟨S, ac.ok, rfl, rfl⟩))) (fun h => nomatch h) fun _ H1 s1 => ?_
  have r0' := r0.by (Kp.same s1)
  refine q_if (b := false) (t_not (t_B (e_call (d := .bl true) (a_cons (e_var rfl r0') (a_cons (e_var rfl (r1.by (Kp.same s1))) a_nil)) ⟨S, x, ac.ok, ac.x, rfl, rfl⟩))) (fun h => nomatch h) fun _ H2 s2 => ?_
  refine s_if (b := false) (t_not (t_B (e_call (d := .bl true) (a_cons (e_var rfl (r0'.by (Kp.same s2))) (a_cons (e_var rfl (r2.by (Kp.same (s1.trans s2)))) a_nil)) ⟨S, c, ac.ok, ac.c, rfl, rfl⟩))) (fun h => nomatch h) fun _ H3 s3 => ?_
  exact q .non H3 .non ((s1.trans s2).trans s3) .non hP
theorem f_is_system (D : DefAt K mg "is_system" s_is_system) (B : Bi mg) (C : Cal P w K mg base "is_whole" 1 ["value", "low", "high"] spIsWhole) : Cal P w K mg base "is_system" 2 ["value"] spIsSystem := by
  refine cal_is_system D B C (len_spP fun ds P ⟨S, _, e, _⟩ => by rw [e]; rfl) ?_
  rintro _ H Q E ⟨ds, P, r, ⟨S, ok, rfl, hP⟩, q⟩
  obtain ⟨v0, rfl, r0⟩ := r.one
  have n1 := ok.n1
  have n4 := ok.n4
  have st := ok.st
  have c3 := ok.c3
  refine q_if (b := false) (EvT.is (t_or (t_not (t_B (e_isi (e_var rfl r0) (kit_tup _)))) fun _ => t_or (t_test (e_neI (e_lenT (e_var rfl r0)) e_int)) fun _ => t_not (t_B (e_call (a_cons (e_ixC 0 (e_var rfl r0) rfl) (a_cons e_int (a_cons e_int a_nil))) ⟨_, _, _, rfl, rfl⟩))) ?_) (fun h => nomatch h) fun _ H1 s1 => ?_
  · show (!true || (!decide (((3 : Nat) : Int) = 3) || !(decide ((1 : Int) ≤ S.n) && decide ((S.n : Int) ≤ 8)))) = false
    rw [decide_eq_true (by omega), decide_eq_true (by omega), decide_eq_true (by omega)]
    rfl
  refine q_unp3 (e_var rfl (r0.by (Kp.same s1))) fun v1 v2 v3 H2 s2 a1 a2 a3 => ?_
  have e1 := a1.int_eq
  have e2 := a2.int_eq
  subst e1 e2
  refine q_if (b := false) (EvT.is (t_or (t_not (t_B (e_call (a_cons (e_var rfl a2) (a_cons e_int (a_cons (e_sub (e_var rfl a1) e_int) a_nil))) ⟨_, _, _, rfl, rfl⟩))) fun _ => t_or (t_not (t_B (e_isi (e_var rfl a3) (kit_tup _)))) fun _ => t_test (e_gt (e_lenT (e_var rfl a3)) e_int)) ?_) (fun h => nomatch h) fun _ H3 s3 => ?_
  · show (!(decide ((0 : Int) ≤ S.start) && decide ((S.start : Int) ≤ (S.n : Int) - 1)) || (!true || decide ((4 : Int) < ((S.T.map rowD).length : Int)))) = false
    rw [List.length_map, decide_eq_true (by omega), decide_eq_true (by omega), decide_eq_false (by omega)]
    rfl
  refine q_forT (e_var rfl (a3.by (Kp.same s3))) (fun H4 _ σ' H' => (∃ x4 x5, σ' = [some v0, some (.int S.n), some (.int S.start), some v3, x4, x5]) ∧ Same H4 H') (fun H4 s4 => ⟨⟨none, none, rfl⟩, Same.refl _⟩) (fun _ _ _ _ p => Kp.same p.2) (fun H4 i d v σ' H' s4 hd hr p => ?_) (fun H4 σ' H' s4 p => ?_)
  · obtain ⟨⟨x4, x5, rfl⟩, s5⟩ := p
    rw [List.getElem?_map] at hd
    obtain ⟨row, hrow, rfl⟩ := Option.map_eq_some_iff.mp hd
    obtain ⟨l1, l2⟩ := ok.tab row (List.mem_of_getElem? hrow)
    refine q_if (b := false) (EvT.is (t_or (t_not (t_B (e_isi (e_var rfl hr) (kit_tup _)))) fun _ => t_test (e_neI (e_lenT (e_var rfl hr)) (e_var rfl (.int _)))) ?_) (fun h => nomatch h) fun _ H6 s6 => ?_
    · show (!true || !decide (((row.map natD).length : Int) = S.n)) = false
      rw [List.length_map, decide_eq_true (by omega)]
      rfl
    refine s_if (b := false) (EvT.is (t_not (t_B (e_allT (g := fun d => isWholeB d 0 ((S.n : Int) - 1)) (e_var rfl (hr.by (Kp.same s6))) (fun _ => rfl) (by rw [List.length_map]; omega) fun i d v H7 s7 hi hv => e_call (a_cons (e_var rfl hv) (a_cons e_int (a_cons (e_sub (e_var rfl (.int _)) e_int) a_nil))) ⟨_, _, _, rfl, rfl⟩))) ?_) (fun h => nomatch h) fun _ H7 s7 => ?_
    · have e : ((row.map natD).all fun d => isWholeB d 0 ((S.n : Int) - 1)) = true := by
        rw [List.all_eq_true]
        intro d hd
        obtain ⟨y, hy, rfl⟩ := List.mem_map.mp hd
        have := l2 y hy
        show (decide ((0 : Int) ≤ y) && decide ((y : Int) ≤ (S.n : Int) - 1)) = true
        rw [decide_eq_true (by omega), decide_eq_true (by omega)]
        rfl
      rw [e]
      rfl
    · exact ⟨⟨some v, x5, rfl⟩, (s5.trans s6).trans s7⟩
  · exact s_ret (d := .bl true) e_bl fun v H5 s5 r5 => q v H5 _ ((((s1.trans s2).trans s3).trans (s4.trans p.2)).trans s5) r5 hP
theorem f_are_nexts (D : DefAt K mg "are_nexts" s_are_nexts) (B : Bi mg) (C1 : Cal P w K mg base "is_row" 1 ["value", "size"] spIsRow) (C2 : Cal P w K mg base "is_index" 1 ["value", "count"] spIsIndex) : Cal P w K mg base "are_nexts" 2 ["value", "many", "commands"] spAreNexts := by
  refine cal_are_nexts D B C1 C2 (len_spP fun ds P ⟨x, m, c, _, _, e, _⟩ => by rw [e]; rfl) ?_
  rintro _ H Q E ⟨ds, P, r, ⟨x, m, c, hm, hc, rfl, hP⟩, q⟩
  obtain ⟨v0, v1, v2, rfl, r0, r1, r2⟩ := r.three
  have e1 := r1.int_eq
  have e2 := r2.int_eq
  subst e1 e2
  refine q_if (b := !isRowB x m || !((items x).all fun row => isRowB row c)) (t_or (t_not (t_B (e_call (a_cons (e_var rfl r0) (a_cons (e_var rfl r1) a_nil)) ⟨_, _, rfl, rfl⟩))) fun h => ?_) (fun h H1 s1 => ?_) fun h H1 s1 => ?_
  · obtain ⟨l, rfl, hl⟩ := isRow_of (nb h)
    exact t_not (t_B (e_allT (e_var rfl r0) (fun _ => rfl) (show l.length ≤ 5000 by omega) fun i d v H7 s7 hi hv => e_call (a_cons (e_var rfl hv) (a_cons (e_var rfl (.int _)) a_nil)) ⟨_, _, rfl, rfl⟩))
  · refine s_ret (d := .bl (areNextsB x m c)) (Ev.is e_bl ?_) fun v H2 s2 r2 => q v H2 _ (s1.trans s2) r2 hP
    have h' : (isRowB x m && ((items x).all fun row => isRowB row c)) = false := by
      cases ha : isRowB x m <;> cases hb : ((items x).all fun row => isRowB row c) <;> simp_all
    unfold areNextsB
    rw [h']
    rfl
  · have h1 : isRowB x m = true ∧ ((items x).all fun row => isRowB row c) = true := by
      cases ha : isRowB x m <;> cases hb : ((items x).all fun row => isRowB row c) <;> simp_all
    obtain ⟨l, rfl, hl⟩ := isRow_of h1.1
    refine s_ret (d := .bl (areNextsB (.tup l) m c)) (Ev.is (e_allT (g := fun row => (items row).all fun note => isIndexB note m) (e_var rfl (r0.by (Kp.same s1))) (fun _ => rfl) (by omega) fun i d v H7 s7 hi hv => ?_) ?_) fun v H2 s2 r2 => q v H2 _ (s1.trans s2) r2 hP
    · have hd := List.all_eq_true.mp h1.2 d (List.mem_of_getElem? hi)
      obtain ⟨l', rfl, hl'⟩ := isRow_of hd
      exact e_allT (e_var rfl hv) (fun _ => rfl) (show l'.length ≤ 5000 by omega) fun i d v H8 s8 hi hv => e_call (a_cons (e_var rfl hv) (a_cons (e_var rfl (.int _)) a_nil)) ⟨_, _, rfl, rfl⟩
    · unfold areNextsB
      rw [h1.1, h1.2]
      rfl
end
end Ub
set_option maxHeartbeats 4000000
/-! UbRdA2: is_rule. -/
namespace Ub
open PySem PySem.Spec PyProof.Rows L2
section
variable {P : Program} {w : World} {K : PySem.W.Frag} {mg : PySem.Str → Option Value} {base : Heap} {σ : L2.St} {H : Hp} {ta tb te : TE} {ds : List Dt} {d : Dt} {D : Ends} {tz : TS}
/-- a, b = t -/
theorem q_unp2 {n1 n2 : Nat} {d1 d2 : Dt} (h : Ev te σ H (.tup [d1, d2])) (q : ∀ v1 v2 H1, Same H H1 → R H1 v1 d1 → R H1 v2 d2 → tz D ((σ.set n1 (some v1)).set n2 (some v2)) H1) :
    tSeq (tAsg te (gTup K 2 (gCons (gName n1) (gCons (gName n2) gNil)))) tz D σ H := h H (Same.refl H) _ fun v H1 s r => by
  obtain ⟨p, xs, rfl, h1, h2⟩ := r.tup_at
  obtain ⟨v1, v2, rfl, r1, r2⟩ := h2.two
  exact ⟨p, _, rfl, sqT_of h1, rfl, _, _, rfl, _, _, rfl, rfl, q _ _ H1 s r1 r2⟩
theorem f_is_rule (D : DefAt K mg "is_rule" s_is_rule) (B : Bi mg) (C1 : Cal P w K mg base "is_row" 1 ["value", "size"] spIsRow) (C2 : Cal P w K mg base "is_index" 1 ["value", "count"] spIsIndex) (C3 : Cal P w K mg base "are_nexts" 2 ["value", "many", "commands"] spAreNexts) :
    Cal P w K mg base "is_rule" 3 ["system", "value"] spIsRule := by
  refine cal_is_rule D B C1 C2 C3 (len_spP fun ds P ⟨S, x, _, e, _⟩ => by rw [e]; rfl) ?_
  rintro _ H Q E ⟨ds, P, r, ⟨S, x, ok, rfl, hP⟩, q⟩
  obtain ⟨v0, v1, rfl, r0, r1⟩ := r.two
  have n1 := ok.n1
  have n4 := ok.n4
  have c3 := ok.c3
  have hq : ∀ v H', Same H H' → R H' v (.bl (isRuleB S x)) → Q v H' := fun v H' s r => q v H' _ s r hP
  clear q hP
  -- states, commands = (system[0], len(system[2]))
  refine q_unp2 (e_tup (a_cons (e_ixC 0 (e_var rfl r0) rfl) (a_cons (e_lenT (e_ixC 2 (e_var rfl r0) rfl)) a_nil)) (Nat.le_of_ble_eq_true rfl)) fun v2 v3 H1 s1 a2 a3 => ?_
  have e2 := a2.int_eq
  have e3 := a3.int_eq
  subst e2 e3
  have r1' := r1.by (Kp.same s1)
  have hlT : ((S.T.map rowD).length : Int) = S.T.length := by rw [List.length_map]
  -- the three rows
  refine q_if (b := !isRowB x 3 || (!isRowB (at_ x 1) S.n || !isRowB (at_ x 2) S.n)) (t_or (t_not (t_B (e_call (a_cons (e_var rfl r1') (a_cons e_int a_nil)) ⟨_, _, rfl, rfl⟩))) fun h => ?_) (fun h H2 s2 => ?_) fun h H2 s2 => ?_
  · obtain ⟨l, rfl, hl⟩ := isRow_of (nb h)
    exact t_or (t_not (t_B (e_call (a_cons (e_ixC 1 (e_var rfl r1') (at_get (by omega))) (a_cons (e_var rfl (.int _)) a_nil)) ⟨_, _, rfl, rfl⟩))) fun _ =>
      t_not (t_B (e_call (a_cons (e_ixC 2 (e_var rfl r1') (at_get (by omega))) (a_cons (e_var rfl (.int _)) a_nil)) ⟨_, _, rfl, rfl⟩))
  · refine s_ret (d := .bl (isRuleB S x)) (Ev.is e_bl ?_) fun v H3 s3 r3 => hq v H3 ((s1.trans s2).trans s3) r3
    have h' : (isRowB x 3 && isRowB (at_ x 1) S.n && isRowB (at_ x 2) S.n) = false := by
      cases ha : isRowB x 3 <;> cases hb : isRowB (at_ x 1) S.n <;> cases hc : isRowB (at_ x 2) S.n <;> simp_all
    unfold isRuleB
    rw [if_neg (by rw [h']; decide)]
  have h' : isRowB x 3 = true ∧ isRowB (at_ x 1) S.n = true ∧ isRowB (at_ x 2) S.n = true := by
    cases ha : isRowB x 3 <;> cases hb : isRowB (at_ x 1) S.n <;> cases hc : isRowB (at_ x 2) S.n <;> simp_all
  obtain ⟨hx, hx1, hx2⟩ := h'
  have hA : (isRowB x 3 && isRowB (at_ x 1) S.n && isRowB (at_ x 2) S.n) = true := by rw [hx, hx1, hx2]; rfl
  clear h
  obtain ⟨l, rfl, hl⟩ := isRow_of hx
  obtain ⟨l1, el1, hl1⟩ := isRow_of hx1
  obtain ⟨l2, el2, hl2⟩ := isRow_of hx2
  have g0 : l[0]? = some (at_ (.tup l) 0) := at_get (by omega)
  have g1 : l[1]? = some (.tup l1) := by rw [← el1]; exact at_get (by omega)
  have g2 : l[2]? = some (.tup l2) := by rw [← el2]; exact at_get (by omega)
  have g10 : l1[0]? = some (at_ (.tup l1) 0) := at_get (by omega)
  have r1'' := r1'.by (Kp.same s2)
  -- the first row of results
  refine q_if (b := !isTupB (at_ (.tup l1) 0) || !(decide ((1 : Int) ≤ ((items (at_ (.tup l1) 0)).length : Int)) && decide (((items (at_ (.tup l1) 0)).length : Int) ≤ 8))) (t_or (t_not (t_B (e_isi (e_ixC 0 (e_ixC 1 (e_var rfl r1'') g1) g10) (kit_tup _)))) fun h => ?_) (fun h H3 s3 => ?_) fun h H3 s3 => ?_
  · have hh := nb h
    cases e : at_ (.tup l1) 0 with
    | tup l' =>
      rw [e] at g10
      exact t_not (t_test (e_chain (f := fun i j => decide (i ≤ j)) (g := fun i j => decide (i ≤ j)) e_int (e_lenT (e_ixC 0 (e_ixC 1 (e_var rfl r1'') g1) g10)) e_int))
    | _ => rw [e] at hh; cases hh
  · refine s_ret (d := .bl (isRuleB S (.tup l))) (Ev.is e_bl ?_) fun v H4 s4 r4 => hq v H4 (((s1.trans s2).trans s3).trans s4) r4
    unfold isRuleB
    rw [if_pos hA, el1, if_neg]
    intro z
    have z1 := Bool.and_eq_true_iff.mp z
    have z2 := Bool.and_eq_true_iff.mp z1.2
    have z3 := of_decide_eq_true z2.1
    have z4 := of_decide_eq_true z2.2
    rw [z1.1, decide_eq_true (by omega), decide_eq_true (by omega)] at h
    cases h
  have h' : isTupB (at_ (.tup l1) 0) = true ∧ 1 ≤ (items (at_ (.tup l1) 0)).length ∧ (items (at_ (.tup l1) 0)).length ≤ 8 := by
    cases ha : isTupB (at_ (.tup l1) 0) with
    | false => rw [ha] at h; cases h
    | true =>
      rw [ha] at h
      have h2 := nb (show (!(decide ((1 : Int) ≤ ((items (at_ (.tup l1) 0)).length : Int)) && decide (((items (at_ (.tup l1) 0)).length : Int) ≤ 8))) = false from h)
      have h3 := Bool.and_eq_true_iff.mp h2
      have h4 := of_decide_eq_true h3.1
      have h5 := of_decide_eq_true h3.2
      exact ⟨rfl, by omega, by omega⟩
  clear h
  obtain ⟨hB1, hB2, hB3⟩ := h'
  have hB : (isTupB (at_ (at_ (.tup l) 1) 0) && (decide (1 ≤ (items (at_ (at_ (.tup l) 1) 0)).length) && decide ((items (at_ (at_ (.tup l) 1) 0)).length ≤ 8))) = true := by
    rw [el1, hB1, decide_eq_true hB2, decide_eq_true hB3]
    rfl
  obtain ⟨l', el'⟩ : ∃ l', at_ (.tup l1) 0 = .tup l' := by
    cases e : at_ (.tup l1) 0 with
    | tup l' => exact ⟨l', rfl⟩
    | _ => rw [e] at hB1; cases hB1
  have em : (items (at_ (at_ (.tup l) 1) 0)).length = l'.length := by rw [el1, el']; rfl
  rw [el'] at g10 hB2 hB3
  have hm2 : 1 ≤ l'.length := hB2
  have hm3 : l'.length ≤ 8 := hB3
  have q1 := r1''.by (Kp.same s3)
  -- many
  refine q_set (e_lenT (e_ixC 0 (e_ixC 1 (e_var rfl q1) g1) g10)) fun v4 H4 s4 a4 => ?_
  have e4 := a4.int_eq
  subst e4
  have q2 := q1.by (Kp.same s4)
  refine q_if (b := !isIndexB (at_ (.tup l) 0) l'.length) (t_not (t_B (e_call (a_cons (e_ixC 0 (e_var rfl q2) g0) (a_cons (e_var rfl (.int _)) a_nil)) ⟨_, _, rfl, rfl⟩))) (fun h H5 s5 => ?_) fun h H5 s5 => ?_
  · refine s_ret (d := .bl (isRuleB S (.tup l))) (Ev.is e_bl ?_) fun v H6 s6 r6 => hq v H6 (((((s1.trans s2).trans s3).trans s4).trans s5).trans s6) r6
    unfold isRuleB
    rw [if_pos hA, if_pos hB, em, if_neg]
    intro z
    rw [z] at h
    cases h
  have hC : isIndexB (at_ (.tup l) 0) l'.length = true := nb h
  clear h
  have q3 := q2.by (Kp.same s5)
  have S5 : Same H H5 := (((s1.trans s2).trans s3).trans s4).trans s5
  have eR : isRuleB S (.tup l) = if resB l'.length S.n (.tup l1) then l2.all (fun row => areNextsB row l'.length S.T.length) else false := by
    unfold isRuleB
    rw [if_pos hA, if_pos hB, em, if_pos hC, el1, el2] <;> rfl
  -- the results
  refine q_forT (e_ixC 1 (e_var rfl q3) g1) (fun H6 i σ' H' => (∃ x5 x6, σ' = [some v0, some v1, some (.int S.n), some (.int ((S.T.map rowD).length : Int)), some (.int l'.length), x5, x6]) ∧ Same H6 H' ∧
    ∀ (j : Nat) d, j < i → l1[j]? = some d → (isRowB d l'.length && (items d).all fun s => isIndexB s S.n) = true) (fun H6 s6 => ⟨⟨none, none, rfl⟩, Same.refl _, fun j d hj => absurd hj (Nat.not_lt_zero _)⟩) (fun _ _ _ _ p => Kp.same p.2.1) (fun H6 i d v σ' H' s6 hd hr p => ?_) (fun H6 σ' H' s6 p => ?_)
  · obtain ⟨⟨x5, x6, rfl⟩, s7, hall⟩ := p
    refine s_if (b := !isRowB d l'.length || !((items d).all fun s => isIndexB s S.n)) (t_or (t_not (t_B (e_call (a_cons (e_var rfl hr) (a_cons (e_var rfl (.int _)) a_nil)) ⟨_, _, rfl, rfl⟩))) fun h => ?_) (fun h H8 s8 => ?_) fun h H8 s8 => ?_
    · obtain ⟨ld, rfl, hld⟩ := isRow_of (nb h)
      exact t_not (t_B (e_allT (e_var rfl hr) (fun _ => rfl) (show ld.length ≤ 5000 by omega) fun i d v H9 s9 hi hv => e_call (a_cons (e_var rfl hv) (a_cons (e_var rfl (.int _)) a_nil)) ⟨_, _, rfl, rfl⟩))
    · refine s_ret (d := .bl (isRuleB S (.tup l))) (Ev.is e_bl ?_) fun v H9 s9 r9 => hq v H9 (((S5.trans s6).trans (s7.trans s8)).trans s9) r9
      rw [eR, if_neg]
      intro z
      have z1 := List.all_eq_true.mp z d (List.mem_of_getElem? hd)
      have z2 := Bool.and_eq_true_iff.mp z1
      rw [z2.1, z2.2] at h
      cases h
    · refine ⟨⟨_, _, rfl⟩, s7.trans s8, fun j d' hj hd' => ?_⟩
      by_cases hji : j = i
      · subst hji
        rw [hd] at hd'
        cases hd'
        cases ha : isRowB d l'.length <;> cases hb : ((items d).all fun s => isIndexB s S.n) <;> simp_all
      · exact hall j d' (by omega) hd'
  · obtain ⟨⟨x5, x6, rfl⟩, s7, hall⟩ := p
    have hR : resB l'.length S.n (.tup l1) = true := by
      refine List.all_eq_true.mpr fun d hd => ?_
      obtain ⟨j, hj⟩ := List.mem_iff_getElem?.mp hd
      exact hall j d (List.getElem?_eq_some_iff.mp hj).1 hj
    rw [if_pos hR] at eR
    have q4 := q3.by (Kp.same (s6.trans s7))
    refine s_ret (d := .bl (isRuleB S (.tup l))) (Ev.is (e_allT (g := fun row => areNextsB row l'.length S.T.length) (e_ixC 2 (e_var rfl q4) g2) (fun _ => rfl) (by omega) fun i d v H8 s8 hi hv => ?_) (by rw [eR])) fun v H9 s9 r9 => hq v H9 ((S5.trans s6).trans (s7.trans s9)) r9
    refine e_call (a_cons (e_var rfl hv) (a_cons (e_var rfl (.int _)) (a_cons (e_var rfl (.int _)) a_nil))) ⟨_, _, _, by omega, by omega, rfl, by rw [hlT]⟩
end
end Ub
set_option maxHeartbeats 4000000
/-! UbRdB: the readings of group B. -/
namespace Ub
open PySem PySem.Spec PyProof.Rows L2

/-! ### helpers -/
theorem valV_not {κ : Type} [DecidableEq κ] {kvs : List (κ × V)} {k : κ} (h : k ∉ kvs.map (·.1)) : valV kvs k = none := by
  unfold valV
  have e : (kvs.find? fun kv => decide (kv.1 = k)) = none := by
    rw [List.find?_eq_none]
    intro x hx
    simp only [decide_eq_true_eq]
    exact fun e => h (List.mem_map.mpr ⟨x, hx, e⟩)
  rw [e]
  rfl
theorem valV_in {κ : Type} [DecidableEq κ] {kvs : List (κ × V)} {k : κ} (h : k ∈ kvs.map (·.1)) : ∃ v, valV kvs k = some v ∧ (k, v) ∈ kvs := by
  obtain ⟨x, hx, e⟩ := List.mem_map.mp h
  unfold valV
  cases e2 : (kvs.find? fun kv => decide (kv.1 = k)) with
  | none =>
    rw [List.find?_eq_none] at e2
    have h3 := e2 x hx
    simp only [decide_eq_true_eq] at h3
    exact absurd e h3
  | some y =>
    have h3 := List.find?_some e2
    have h4 := List.mem_of_find?_eq_some e2
    simp only [decide_eq_true_eq] at h3
    refine ⟨y.2, rfl, ?_⟩
    rw [← h3]
    exact h4
theorem putK_not {κ : Type} [DecidableEq κ] {kvs : List (κ × V)} {k : κ} {v : V} (h : k ∉ kvs.map (·.1)) : putK kvs k v = kvs ++ [(k, v)] := by
  unfold putK
  rw [if_neg]
  intro z
  obtain ⟨x, hx, e⟩ := List.any_eq_true.mp z
  exact h (List.mem_map.mpr ⟨x, hx, of_decide_eq_true e⟩)
/-- v is a tuple of these -/
def TAt (H : Hp) (v : V) (ns : List Nat) : Prop := ∃ a, v = .ref a ∧ H a = some (.tup (ns.map fun n : Nat => V.int (n : Int)))
theorem TAt.by {H H' : Hp} {v : V} {ns : List Nat} (k : Kp H H') (h : TAt H v ns) : TAt H' v ns := let ⟨a, e, h⟩ := h; ⟨a, e, k.tup _ _ h⟩
def kOf (ns : List Nat) : List L2.Key := ns.map fun n : Nat => Sum.inl (n : Int)
theorem kOf_map (ns : List Nat) : (kOf ns).map kV = ns.map fun n : Nat => V.int (n : Int) := by
  unfold kOf
  rw [List.map_map]
  rfl
theorem kOf_inj {ns ms : List Nat} (h : kOf ns = kOf ms) : ns = ms := by
  unfold kOf at h
  exact (List.map_inj_right fun a b e => by
    have e2 := Sum.inl.inj e
    omega).mp h
def tl3 (t : Triple) : List Nat := [t.1, t.2.1, t.2.2]
theorem tl3_inj {t u : Triple} (h : tl3 t = tl3 u) : t = u := by
  unfold tl3 at h
  simp only [List.cons.injEq, and_true] at h
  exact Prod.ext h.1 (Prod.ext h.2.1 h.2.2)
def tl2 (t : Pair) : List Nat := [t.1, t.2]
theorem tl2_inj {t u : Pair} (h : tl2 t = tl2 u) : t = u := by
  unfold tl2 at h
  simp only [List.cons.injEq, and_true] at h
  exact Prod.ext h.1 h.2
section
variable {P : Program} {w : World} {K : PySem.W.Frag} {mg : PySem.Str → Option Value} {base : Heap} {σ : L2.St} {H H' : Hp} {ta tb te : TE} {ds : List Dt} {d : Dt} {D : Ends} {tz : TS}
/-- a new tuple -/
def EvX (te : TE) (σ : L2.St) (H : Hp) (ds : List Dt) : Prop := ∀ H1, Same H H1 → ∀ Q : VK, (∀ p xs H2, Same H1 H2 → H1 p = none → H2 p = some (.tup xs) → RA H2 xs ds → Q (.ref p) H2) → te σ H1 Q
theorem x_tup {ta : TA} (h : EvA ta σ H ds) (hl : ds.length ≤ 5000) : EvX (tTup ta) σ H ds := fun H1 s Q q =>
  h H1 s _ fun vs H2 s2 r2 => ⟨sz1 (by rw [r2.length]; exact hl), fun p hp => q p vs _ (s2.trans (same_new hp)) (s2.free hp) upd_same (r2.by (Kp.new hp))⟩
theorem RA.nats {vs : List V} {ns : List Nat} (h : RA H vs (ns.map natD)) : vs = ns.map fun n : Nat => V.int (n : Int) := by
  have e : ns.map natD = (ns.map fun n : Nat => (n : Int)).map Dt.int := by rw [List.map_map]; rfl
  rw [e] at h
  rw [h.ints, List.map_map]
  rfl
/-- a new tuple of numbers -/
theorem x_nats {ns : List Nat} (h : EvX te σ H (ns.map natD)) : ∀ H1, Same H H1 → ∀ Q : VK, (∀ v H2, Same H1 H2 → TAt H2 v ns → Q v H2) → te σ H1 Q := fun H1 s Q q =>
  h H1 s Q fun p xs H2 s2 _ hp r => q _ H2 s2 ⟨p, rfl, by rw [hp, r.nats]⟩
theorem TAt.r {v : V} {ns : List Nat} (h : TAt H v ns) : R H v (.tup (ns.map natD)) := by
  obtain ⟨a, rfl, h⟩ := h
  have e : ns.map natD = (ns.map fun n : Nat => (n : Int)).map Dt.int := by rw [List.map_map]; rfl
  have e2 : (ns.map fun n : Nat => V.int (n : Int)) = (ns.map fun n : Nat => (n : Int)).map V.int := by rw [List.map_map]; rfl
  refine .tup (.inl h) ?_
  rw [e, e2]
  exact RA.of_ints _
theorem paired_snoc {α β : Type} {F : α → β → Prop} {a : α} {b : β} (r : F a b) : ∀ {l : List α} {m : List β}, Paired F l m → Paired F (l ++ [a]) (m ++ [b])
  | _, _, .nil => .cons r .nil
  | _, _, .cons q t => .cons q (paired_snoc r t)
theorem paired_by {α β : Type} {F G : α → β → Prop} (h : ∀ a b, F a b → G a b) : ∀ {l : List α} {m : List β}, Paired F l m → Paired G l m
  | _, _, .nil => .nil
  | _, _, .cons q t => .cons (h _ _ q) (paired_by h t)
theorem paired_len {α β : Type} {F : α → β → Prop} : ∀ {l : List α} {m : List β}, Paired F l m → l.length = m.length
  | _, _, .nil => rfl
  | _, _, .cons _ t => by rw [List.length_cons, List.length_cons, paired_len t]
theorem paired_at {α β : Type} {F : α → β → Prop} : ∀ {l : List α} {m : List β} {i : Nat} {a : α}, Paired F l m → l[i]? = some a → ∃ b, m[i]? = some b ∧ F a b
  | _, _, _, _, .nil, e => by simp at e
  | _, _, 0, _, .cons q _, e => by
    have e' := Option.some.inj e
    subst e'
    exact ⟨_, rfl, q⟩
  | _, _, i + 1, _, .cons _ t, e => by
    obtain ⟨b, h1, h2⟩ := paired_at (i := i) t (by simpa using e)
    exact ⟨b, by simpa using h1, h2⟩
theorem paired_last {α β : Type} {F : α → β → Prop} : ∀ {m : List β} {l : List α} {b : β}, Paired F l (m ++ [b]) → ∃ l' a, l = l' ++ [a] ∧ Paired F l' m ∧ F a b
  | [], l, b, h => by
    cases h with
    | cons q t =>
      cases t
      exact ⟨[], _, rfl, .nil, q⟩
  | x :: m, l, b, h => by
    cases h with
    | cons q t =>
      obtain ⟨l', a, rfl, h1, h2⟩ := paired_last t
      exact ⟨_ :: l', a, rfl, .cons q h1, h2⟩
/-- for i, x in enumerate(t) -/
theorem for_enumT {a : Addr} {xs : List V} {g : TG} {tb : TS} (Pv : Nat → L2.St → Hp → Prop) (h0 : Pv 0 σ H) (hl : ∀ i σ H, i ≤ xs.length → Pv i σ H → SqT K H a xs)
    (hs : ∀ (i : Nat) x T σ H, xs[i]? = some x → Pv i σ H → H T = none → g (.ref T) σ (upd H T (.tup [.int (i : Nat), x])) fun σ2 H2 => tb { D with nx := Pv (i + 1), ct := Pv (i + 1), bk := D.nx } σ2 H2) (hd : ∀ σ H, Pv xs.length σ H → D.nx σ H) :
    ∃ W : Nat → Nat → L2.St → Hp → Prop, (∃ m, W 0 m σ H) ∧ ∀ i m σ H, W i m σ H →
      ((IteT K a).stop i H ∧ D.nx σ H) ∨ ((IteT K a).go i H ∧ ∃ N : L2.St → Hp → Prop, (∀ σ' H', N σ' H' → ∃ m', m' < m ∧ W (i + 1) m' σ' H') ∧ ∀ x H', (IteT K a).yld i H x H' → g x σ H' fun σ2 H2 => tb { D with nx := N, ct := N, bk := D.nx } σ2 H2) := by
  refine ⟨fun i m σ H => m = xs.length - i ∧ i ≤ xs.length ∧ Pv i σ H, ⟨xs.length, by simp, Nat.zero_le _, h0⟩, ?_⟩
  rintro i m σ H ⟨rfl, hi, p⟩
  have q := hl i σ H hi p
  by_cases hlt : i < xs.length
  · refine .inr ⟨⟨xs, xs[i], q, by simp [hlt]⟩, Pv (i + 1), fun σ' H' p' => ⟨xs.length - (i + 1), by omega, rfl, hlt, p'⟩, fun x H' y => ?_⟩
    obtain ⟨T, x', rfl, hT, rfl, y⟩ := y
    exact hs i x' T σ _ (y xs q) p hT
  · have e : i = xs.length := by omega
    subst e
    exact .inl ⟨⟨xs, q, Nat.le_refl _⟩, hd σ H p⟩
/-- .. whatever of P comes -/
def EvP (te : TE) (σ : L2.St) (H : Hp) (P : Dt → Prop) : Prop := ∀ H1, Same H H1 → ∀ Q : VK, (∀ v H2 d, Same H1 H2 → R H2 v d → P d → Q v H2) → te σ H1 Q
theorem p_call {pp : Pp} {ta : TA} {E : XK} {P : Dt → Prop} (h : EvA ta σ H ds) (hp : pp ds P) : EvP (tCall (spP pp) [] E ta) σ H P := fun H1 s Q q =>
  h H1 s _ fun vs H2 s2 r2 => ⟨ds, P, by rw [List.append_nil]; exact r2, hp, fun v H3 d' s3 r3 e => q v H3 d' (s2.trans s3) r3 e⟩
/-- x = f(..), any promise -/
theorem q_callX {sp : Sp} {ta : TA} {E : XK} {n : Nat} (h : EvA ta σ H ds) (k : ∀ vs H1, Same H H1 → RA H1 vs ds → sp vs H1 (fun v H2 => tz D (σ.set n (some v)) H2) E) : tSeq (tAsg (tCall sp [] E ta) (gName n)) tz D σ H :=
  h H (Same.refl H) _ fun vs H1 s r => by
    have h2 := k vs H1 s r
    rw [List.append_nil]
    exact h2
open Classical in
theorem the_bool (W : Prop) : ∃ b : Bool, (b = true ↔ W) ∧ ∀ c : Bool, (c = true ↔ W) → c = b := by
  refine ⟨decide W, by simp, fun c h => ?_⟩
  by_cases hw : W
  · rw [h.mpr hw, decide_eq_true hw]
  · rw [decide_eq_false hw]
    cases c with
    | false => rfl
    | true => exact absurd (h.mp rfl) hw

/-! ### a rule is taken for a rule -/
theorem all_natD {l : List Nat} {n : Nat} (h : ∀ y ∈ l, y < n) : ((l.map natD).all fun s => isIndexB s n) = true := by
  rw [List.all_eq_true]
  intro d hd
  obtain ⟨y, hy, rfl⟩ := List.mem_map.mp hd
  have := h y hy
  show (decide ((0 : Int) ≤ y) && decide ((y : Int) < n)) = true
  rw [decide_eq_true (by omega), decide_eq_true (by omega)]
  rfl
theorem isRow_ok {α : Type} {l : List α} {f : α → Dt} {n : Nat} (h : l.length = n) : isRowB (.tup (l.map f)) n = true := by
  show decide (((l.map f).length : Int) = n) = true
  rw [List.length_map, h]
  exact decide_eq_true rfl
theorem isRuleB_ok {S : Sys} {m : Nat} {r : Rule} (ok : S.Ok) (o : r.Ok S m) : isRuleB S (ruleD r) = true := by
  have n1 := ok.n1
  have hA : (isRowB (ruleD r) 3 && isRowB (at_ (ruleD r) 1) S.n && isRowB (at_ (ruleD r) 2) S.n) = true := by
    have e1 : isRowB (ruleD r) 3 = true := rfl
    have e2 : isRowB (at_ (ruleD r) 1) S.n = true := isRow_ok o.resL
    have e3 : isRowB (at_ (ruleD r) 2) S.n = true := isRow_ok o.nxtL
    rw [e1, e2, e3]
    rfl
  have e10 : at_ (at_ (ruleD r) 1) 0 = rowD (r.res.getD 0 []) := by
    show (r.res.map rowD).getD 0 .non = _
    rw [List.getD_eq_getElem?_getD, List.getElem?_map, (o.resRow (x := 0) (by omega)).1]
    rfl
  have em : (items (at_ (at_ (ruleD r) 1) 0)).length = m := by
    rw [e10]
    show ((r.res.getD 0 []).map natD).length = m
    rw [List.length_map]
    exact (o.resRow (x := 0) (by omega)).2.1
  have hB : (isTupB (at_ (at_ (ruleD r) 1) 0) && (decide (1 ≤ (items (at_ (at_ (ruleD r) 1) 0)).length) && decide ((items (at_ (at_ (ruleD r) 1) 0)).length ≤ 8))) = true := by
    have e1 : isTupB (at_ (at_ (ruleD r) 1) 0) = true := by rw [e10]; rfl
    rw [e1, em, decide_eq_true o.m1, decide_eq_true o.m8]
    rfl
  unfold isRuleB
  rw [if_pos hA, if_pos hB, em, if_pos, if_pos]
  · show ((r.nxt.map nxtD).all fun row => areNextsB row m S.T.length) = true
    rw [List.all_eq_true]
    intro d hd
    obtain ⟨a, ha, rfl⟩ := List.mem_map.mp hd
    obtain ⟨h1, h2⟩ := o.nxt a ha
    have e1 : isRowB (nxtD a) m = true := isRow_ok h1
    have e2 : ((items (nxtD a)).all fun row => isRowB row S.T.length) = true := by
      show ((a.map rowD).all fun row => isRowB row S.T.length) = true
      rw [List.all_eq_true]
      intro d hd
      obtain ⟨b, hb, rfl⟩ := List.mem_map.mp hd
      exact isRow_ok (h2 b hb).1
    have e3 : ((items (nxtD a)).all fun row => (items row).all fun note => isIndexB note m) = true := by
      show ((a.map rowD).all fun row => (items row).all fun note => isIndexB note m) = true
      rw [List.all_eq_true]
      intro d hd
      obtain ⟨b, hb, rfl⟩ := List.mem_map.mp hd
      exact all_natD (h2 b hb).2
    unfold areNextsB
    rw [e1, e2, e3]
    rfl
  · show ((r.res.map rowD).all fun row => isRowB row m && (items row).all fun s => isIndexB s S.n) = true
    rw [List.all_eq_true]
    intro d hd
    obtain ⟨b, hb, rfl⟩ := List.mem_map.mp hd
    obtain ⟨h1, h2⟩ := o.res b hb
    have e1 : isRowB (rowD b) m = true := isRow_ok h1
    have e2 : ((items (rowD b)).all fun s => isIndexB s S.n) = true := all_natD h2
    rw [e1, e2]
    rfl
  · show (decide ((0 : Int) ≤ r.init) && decide ((r.init : Int) < m)) = true
    have := o.init
    rw [decide_eq_true (by omega), decide_eq_true (by omega)]
    rfl

/-! ### accepts_rule -/
theorem f_accepts_rule (D : DefAt K mg "accepts_rule" s_accepts_rule) (B : Bi mg) (C1 : Cal P w K mg base "check_action" 3 ["system", "state", "command"] spCheckAction) (C2 : Cal P w K mg base "is_rule" 3 ["system", "value"] spIsRule) (C3 : Cal P w K mg base "works" 2 ["system", "state", "command", "rule"] spWorks) :
    Cal P w K mg base "accepts_rule" 4 ["system", "state", "command", "value"] spAccepts := by
  refine cal_accepts_rule D B C1 C2 C3 (len_spP fun ds P ⟨S, x, c, v, _, e, _⟩ => by rw [e]; rfl) ?_
  rintro _ H Q E ⟨ds, P, r, ⟨S, x, c, v, ac, rfl, hP⟩, q⟩
  obtain ⟨v0, v1, v2, v3, rfl, r0, r1, r2, r3⟩ := r.four
  refine q_drop (e_call (d := .non) (a_cons (e_var rfl r0) (a_cons (e_var rfl r1) (a_cons (e_var rfl r2) a_nil))) ⟨S, x, c, ac, rfl, rfl⟩) fun H1 s1 => ?_
  have k := Kp.same s1
  rcases hP with ⟨hv, hP⟩ | ⟨ru, m, rfl, o, hP⟩
  · exact s_ret (d := .bl false) (Ev.is (e_and (b := false) (e_call (a_cons (e_var rfl (r0.by k)) (a_cons (e_var rfl (r3.by k)) a_nil)) ⟨S, v, ac.ok, rfl, rfl⟩) fun h => by rw [hv] at h; cases h) (by rw [hv]; rfl)) fun v' H2 s2 r2 => q v' H2 _ (s1.trans s2) r2 hP
  · obtain ⟨b, hb, hu⟩ := the_bool (ru.Works S (S.step x c) x)
    refine s_ret (d := .bl b) (Ev.is (e_and (b := b) (e_call (a_cons (e_var rfl (r0.by k)) (a_cons (e_var rfl (r3.by k)) a_nil)) ⟨S, ruleD ru, ac.ok, rfl, rfl⟩) fun _ => ?_) ?_) fun v' H2 s2 r2 => q v' H2 _ (s1.trans s2) r2 (hP b hb)
    · exact e_call (a_cons (e_var rfl (r0.by k)) (a_cons (e_var rfl (r1.by k)) (a_cons (e_var rfl (r2.by k)) (a_cons (e_var rfl (r3.by k)) a_nil)))) ⟨S, x, c, ru, m, ac, o, rfl, fun b' hb' => by rw [hu b' hb']⟩
    · rw [isRuleB_ok ac.ok o]
      rfl

/-! ### notes_of, least_notes -/
theorem ex_max : ∀ ns : List Int, ns ≠ [] → ∃ m, m ∈ ns ∧ ∀ y ∈ ns, y ≤ m
  | [], h => absurd rfl h
  | [n], _ => ⟨n, List.mem_singleton.mpr rfl, fun y hy => by rw [List.mem_singleton.mp hy]; exact Int.le_refl _⟩
  | n :: k :: ns, _ => by
    obtain ⟨m, h1, h2⟩ := ex_max (k :: ns) (List.cons_ne_nil _ _)
    by_cases h : m ≤ n
    · refine ⟨n, List.mem_cons_self, fun y hy => ?_⟩
      rcases List.mem_cons.mp hy with rfl | hy
      · exact Int.le_refl _
      · exact Int.le_trans (h2 y hy) h
    · refine ⟨m, List.mem_cons_of_mem _ h1, fun y hy => ?_⟩
      rcases List.mem_cons.mp hy with rfl | hy
      · omega
      · exact h2 y hy
theorem e_max {ns : List Int} {m : Int} (h : EvL te σ H (ns.map Dt.int)) (h1 : m ∈ ns) (h2 : ∀ y ∈ ns, y ≤ m) : Ev (tCB (rMax K) (tCons te tNil)) σ H (.int m) := fun H1 s Q q =>
  h H1 s _ fun p xs H2 s2 hn hp r => ⟨p, ns, rfl, sqL_of (by rw [hp, r.ints]), List.length_pos_of_mem h1, fun m' a b => by
    have e : m' = m := Int.le_antisymm (h2 m' a) (b m h1)
    subst e
    exact q _ H2 s2 (.int _)⟩
theorem f_least_notes (D : DefAt K mg "least_notes" s_least_notes) (B : Bi mg) (C1 : Cal P w K mg base "check_action" 3 ["system", "state", "command"] spCheckAction) (C2 : Cal P w K mg base "notes_of" 4 ["system", "state", "command"] spNotesOf) :
    Cal P w K mg base "least_notes" 5 ["system", "state", "command"] spLeastNotes := by
  refine cal_least_notes D B C1 C2 (len_spP fun ds P ⟨S, x, c, _, e, _⟩ => by rw [e]; rfl) ?_
  rintro _ H Q E ⟨ds, P, r, ⟨S, x, c, ac, rfl, hP⟩, q⟩
  obtain ⟨v0, v1, v2, rfl, r0, r1, r2⟩ := r.three
  refine q_drop (e_call (d := .non) (a_cons (e_var rfl r0) (a_cons (e_var rfl r1) (a_cons (e_var rfl r2) a_nil))) ⟨S, x, c, ac, rfl, rfl⟩) fun H1 s1 => ?_
  have k := Kp.same s1
  have h := p_call (E := E0) (pp := fun ds P => ∃ (S : Sys) (x c : Nat), Act S x c ∧ ds = [sysD S, natD x, natD c] ∧ ∀ k, LeastP S (S.step x c) x k → P (.tup [.lst, natD k])) (P := fun z => ∃ k, LeastP S (S.step x c) x k ∧ z = .tup [.lst, natD k])
    (a_cons (e_var (σ := start N_least_notes [v0, v1, v2]) (n := 0) rfl (r0.by k)) (a_cons (e_var (n := 1) rfl (r1.by k)) (a_cons (e_var (n := 2) rfl (r2.by k)) a_nil))) ⟨S, x, c, ac, rfl, fun k hk => ⟨k, hk, rfl⟩⟩
  refine h H1 (Same.refl H1) _ fun v H2 d s2 r2 hd => ?_
  obtain ⟨n, hn, rfl⟩ := hd
  obtain ⟨a, xs, rfl, e1, e2⟩ := r2.tup_at
  obtain ⟨w1, w2, rfl, _, r4⟩ := e2.two
  exact ⟨a, _, 1, w2, rfl, rfl, sqT_of e1, atI_nat (j := 1) rfl, q w2 H2 _ (s1.trans s2) r4 (hP n hn)⟩
theorem f_notes_of (D : DefAt K mg "notes_of" s_notes_of) (B : Bi mg) (C1 : Cal P w K mg base "counterparts_of" 3 ["system", "one", "other"] spCounterpartsOf) (C2 : Cal P w K mg base "step" 1 ["system", "state", "command"] spStep) :
    Cal P w K mg base "notes_of" 4 ["system", "state", "command"] spNotesOf := by
  refine cal_notes_of D B C1 C2 (len_spP fun ds P ⟨S, x, c, _, e, _⟩ => by rw [e]; rfl) ?_
  rintro _ H Q E ⟨ds, P, r, ⟨S, x, c, ac, rfl, hP⟩, q⟩
  obtain ⟨v0, v1, v2, rfl, r0, r1, r2⟩ := r.three
  have n1 := ac.ok.n1
  have n4 := ac.ok.n4
  refine q_callX (a_cons (e_var rfl r0) (a_cons (e_call (d := natD (S.step x c)) (a_cons (e_var rfl r0) (a_cons (e_var rfl r1) (a_cons (e_var rfl r2) a_nil))) ⟨S, x, c, ac.ok, ac.x, ac.c, rfl, rfl⟩) (a_cons (e_var rfl r1) a_nil))) fun vs H1 s1 rr =>
    ⟨S, S.step x c, x, ac.ok, ac.a, ac.x, rr, fun p xs rows H2 s2 hn hp hr hl hrow => ?_⟩
  have el : ((rows.map rowD).map fun d => Dt.int ((items d).length : Int)) = (rows.map fun row => (row.length : Int)).map Dt.int := by
    rw [List.map_map, List.map_map]
    refine List.map_congr_left fun row _ => ?_
    show Dt.int (((row.map natD).length : Nat) : Int) = Dt.int (row.length : Int)
    rw [List.length_map]
  have hne : (rows.map fun row => (row.length : Int)) ≠ [] := fun z => by
    have := congrArg List.length z
    rw [List.length_map, List.length_nil] at this
    omega
  obtain ⟨m, hm, hle⟩ := ex_max _ hne
  obtain ⟨row, hrm, rfl⟩ := List.mem_map.mp hm
  obtain ⟨z, hz⟩ := List.mem_iff_getElem?.mp hrm
  obtain ⟨hnd, hrch⟩ := hrow z row hz
  refine s_ret (d := .tup [.lst, natD row.length]) (e_tup (a_cons ((v_var rfl).toD (.lst hp)) (a_cons (e_max (ns := rows.map fun row => (row.length : Int)) ?_ hm hle) a_nil)) (Nat.le_of_ble_eq_true rfl)) fun v H3 s3 r3 => q v H3 _ ((s1.trans s2).trans s3) r3 (hP row.length fun r mm o wk => least o ac.ok ac.a ac.x wk hnd hrch)
  rw [← el]
  exact l_lcV (f := fun d => .int ((items d).length : Int)) hp hr (v_var rfl) (fun _ => rfl) (by rw [List.length_map]; omega)
    (fun i d v H3 s3 hd hv => by
      rw [List.getElem?_map] at hd
      obtain ⟨row, hrow, rfl⟩ := Option.map_eq_some_iff.mp hd
      exact e_lenT (e_var rfl hv))
end
end Ub
set_option maxHeartbeats 4000000
/-! UbRdB2: counterparts_of. -/
namespace Ub
open PySem PySem.Spec PyProof.Rows L2
section
variable {P : Program} {w : World} {K : PySem.W.Frag} {mg : PySem.Str → Option Value} {base : Heap} {σ : L2.St} {H H' : Hp} {ta tb te tl : TE} {ds es : List Dt} {d : Dt} {D : Ends} {tz : TS}
theorem q_cb1 {r : List V → Hp → VK → Prop} {n : Nat} (h : te σ H fun x H1 => r [x] H1 fun v H2 => tz D (σ.set n (some v)) H2) : tSeq (tAsg (tCB r (tCons te tNil)) (gName n)) tz D σ H := h
theorem call_x {sp : Sp} {ta : TA} {E : XK} {Q : VK} (h : EvA ta σ H ds) (k : ∀ vs H1, Same H H1 → RA H1 vs ds → sp vs H1 Q E) : tCall sp [] E ta σ H Q :=
  h H (Same.refl H) _ fun vs H1 s r => by
    have h2 := k vs H1 s r
    rw [List.append_nil]
    exact h2
theorem Cw.same {L : Addr} {H3 : Hp} (c : Cw H L es H') (s : Same H' H3) : Cw H L es H3 := let ⟨a, b, acc, c1, c2⟩ := c; ⟨a, b.trans s, acc, s _ _ c1, c2.by (Kp.same s)⟩
def pick (ks : List Pair) (x : Nat) : List Nat := (ks.filter fun k => decide (k.1 = x)).map (·.2)
theorem pick_yes {ks : List Pair} {x i : Nat} {k : Pair} (h : ks[i]? = some k) (e : k.1 = x) : pick (ks.take (i + 1)) x = pick (ks.take i) x ++ [k.2] := by
  unfold pick
  rw [List.take_add_one, h, List.filter_append, List.map_append]
  show _ ++ ((List.filter _ [k]).map _) = _
  rw [List.filter_cons_of_pos (by simp [e])]
  rfl
theorem pick_no {ks : List Pair} {x i : Nat} {k : Pair} (h : ks[i]? = some k) (e : k.1 ≠ x) : pick (ks.take (i + 1)) x = pick (ks.take i) x := by
  unfold pick
  rw [List.take_add_one, h, List.filter_append, List.map_append]
  show _ ++ ((List.filter _ [k]).map _) = _
  rw [List.filter_cons_of_neg (by simp [e])]
  show _ ++ [] = _
  rw [List.append_nil]
theorem pick_len (ks : List Pair) (x : Nat) : (pick ks x).length ≤ ks.length := by
  unfold pick
  rw [List.length_map]
  exact List.length_filter_le _ _
theorem mem_pick {ks : List Pair} {x y : Nat} : y ∈ pick ks x ↔ (x, y) ∈ ks := by
  unfold pick
  constructor
  · intro h
    obtain ⟨k, hk, rfl⟩ := List.mem_map.mp h
    have h1 := List.mem_filter.mp hk
    have h2 : k.1 = x := of_decide_eq_true h1.2
    have h3 : k = (x, k.2) := Prod.ext h2 rfl
    rw [← h3]
    exact h1.1
  · intro h
    exact List.mem_map.mpr ⟨(x, y), List.mem_filter.mpr ⟨h, decide_eq_true rfl⟩, rfl⟩
theorem pick_nodup {ks : List Pair} (h : ks.Nodup) (x : Nat) : (pick ks x).Nodup := by
  unfold pick
  refine nodup_map_of (h.sublist List.filter_sublist) fun a ha b hb e => ?_
  have h1 : a.1 = x := of_decide_eq_true (List.mem_filter.mp ha).2
  have h2 : b.1 = x := of_decide_eq_true (List.mem_filter.mp hb).2
  exact Prod.ext (h1.trans h2.symm) e
/-- [second for first, second in l if first == state] -/
theorem l_lcP {p : Addr} {xs : List V} {ks : List Pair} {x n1 n2 n3 : Nat} {vs : List Nat} (hp : H p = some (.lst xs)) (hr : Paired (fun v k => TAt H v (tl2 k)) xs ks) (h : EvV tl σ H (.ref p)) (hz : ks.length ≤ 5000)
    (hw : ∀ a b, wipe (((wipe σ vs).set n1 (some a)).set n2 (some b)) vs = wipe σ vs) (h1 : ∀ a b, (((wipe σ vs).set n1 (some a)).set n2 (some b))[n1]? = some (some a)) (h2 : ∀ a b, (((wipe σ vs).set n1 (some a)).set n2 (some b))[n2]? = some (some b))
    (h3 : ∀ a b, (((wipe σ vs).set n1 (some a)).set n2 (some b))[n3]? = some (some (.int (x : Int)))) :
    EvL (tLc (iList K tl) (gTup K 2 (gCons (gName n1) (gCons (gName n2) gNil))) (tTest (tOp rEq (tVar n1) (tVar n3))) (tVar n2) vs) σ H ((pick ks x).map natD) := fun H0 s0 Q q =>
  h H0 s0 _ fun H1 s1 => by
    have e1 : H1 p = some (.lst xs) := s1 _ _ (s0 _ _ hp)
    have hr1 : Paired (fun v k => TAt H1 v (tl2 k)) xs ks := paired_by (fun a b t => t.by (Kp.same (s0.trans s1))) hr
    refine ⟨p, rfl, ⟨xs, sqL_of e1⟩, fun L hL => lc_list (xs := xs) (fun i H' => Cw H1 L ((pick (ks.take i) x).map natD) H') (Cw.start hL) (fun i H' _ c => sqL_of (c.2.1 _ _ e1)) (fun i v H' hx c => ?_) (fun H' c => ?_)⟩
    · obtain ⟨k, ek, a, rfl, ea⟩ := paired_at hr1 hx
      have hi := (List.getElem?_eq_some_iff.mp ek).1
      have ea' : H' a = some (.tup [.int (k.1 : Int), .int (k.2 : Int)]) := c.2.1 _ _ ea
      refine ⟨a, _, rfl, .inl (.inl ea'), rfl, _, _, rfl, _, _, rfl, rfl, hw _ _, ?_⟩
      have ht : EvT (tTest (tOp rEq (tVar n1) (tVar n3))) (((wipe σ vs).set n1 (some (.int (k.1 : Int)))).set n2 (some (.int (k.2 : Int)))) H' (decide ((k.1 : Int) = (x : Int))) := t_test (e_eqI (e_var (h1 _ _) (.int _)) (e_var (h3 _ _) (.int _)))
      refine ht H' (Same.refl H') _ fun H3 s3 => ?_
      by_cases e : k.1 = x
      · rw [if_pos (decide_eq_true (by omega))]
        have t := Cw.turn (c.same s3) (by rw [List.length_map]; have := pick_len (ks.take i) x; rw [List.length_take] at this; omega) (e_var (h2 (.int (k.1 : Int)) (.int (k.2 : Int))) (.int (k.2 : Int)))
        rw [pick_yes ek e, List.map_append]
        exact t
      · rw [if_neg (by rw [decide_eq_false (by omega)]; decide), pick_no ek e]
        exact c.same s3
    · have hl : xs.length = ks.length := paired_len hr1
      have c' : Cw H1 L ((pick ks x).map natD) H' := by
        rw [hl, List.take_length] at c
        exact c
      obtain ⟨ys, a1, a2, a3, a4⟩ := c'.end_
      exact q L ys H' (s1.trans a1) (s1.free a2) a3 a4
theorem f_counterparts_of (D : DefAt K mg "counterparts_of" s_counterparts_of) (B : Bi mg) (C1 : Cal P w K mg base "pairs_from" 2 ["system", "one", "other"] spPairsFrom) (C2 : Cal P w K mg base "states_of" 1 ["system"] spStatesOf) :
    Cal P w K mg base "counterparts_of" 3 ["system", "one", "other"] spCounterpartsOf := by
  refine cal_counterparts_of D B C1 C2 (fun vs H Q E ⟨S, a, b, _, _, _, r, _⟩ => by rw [r.length]; rfl) ?_
  rintro _ H Q E ⟨S, a, b, ok, ha, hb, r, q⟩
  obtain ⟨v0, v1, v2, rfl, r0, r1, r2⟩ := r.three
  have n4 := ok.n4
  refine q_cb1 (call_x (a_cons (e_var rfl r0) (a_cons (e_var rfl r1) (a_cons (e_var rfl r2) a_nil))) fun vs H1 s1 rr => ⟨S, a, b, ok, ha, hb, rr, fun p kvs ks H2 s2 hn hp hks hP => ⟨p, kvs, ks, rfl, hp, hks, fun pl ys ks' hperm hpair hnl => ?_⟩⟩)
  have few : ks'.length ≤ 16 := by
    rw [hperm.length_eq]
    exact ok.few2 ha hb hP.1 hP.2
  have S2 : Same H (upd H2 pl (.lst ys)) := (s1.trans s2).trans (same_new hnl)
  have hpl : (upd H2 pl (.lst ys)) pl = some (.lst ys) := upd_same
  have hpr : Paired (fun v k => TAt (upd H2 pl (.lst ys)) v (tl2 k)) ys ks' := paired_by (fun v k ⟨t, e, h⟩ => ⟨t, e, same_new hnl _ _ h⟩) hpair
  generalize hH3 : upd H2 pl (.lst ys) = H3 at S2 hpl hpr
  have hst : EvL (tCall spStatesOf [] E0 (tCons (tVar 0) tNil)) [some v0, some v1, some v2, some (.ref pl), none, none, none] H3 ((List.range S.n).map natD) := fun H4 s4 Q' q' =>
    call_x (a_cons (e_var rfl (r0.by (Kp.same (S2.trans s4)))) a_nil) fun vs H5 s5 r5 => ⟨S, ok, r5, fun p' xs' H6 s6 a1 a2 a3 => q' p' xs' H6 (s5.trans s6) (s5.free a1) a2 a3⟩
  refine s_retL (l_lcL (f := fun d => match d with | .int i => rowD (pick ks' i.toNat) | _ => .non) hst (fun _ => rfl) (by rw [List.length_map, List.length_range]; omega) fun i d v H4 s4 hd hv => ?_) fun p' xs' H4 s4 a1 a2 a3 => ?_
  · rw [List.getElem?_map] at hd
    obtain ⟨x, hx, rfl⟩ := Option.map_eq_some_iff.mp hd
    have ev := hv.int_eq
    subst ev
    have ex : ((x : Int)).toNat = x := by omega
    refine Ev.is (e_tupL (l_lcP (x := x) (s4 _ _ hpl) (paired_by (fun v k t => t.by (Kp.same s4)) hpr) (v_var rfl) (by omega) (fun _ _ => rfl) (fun _ _ => rfl) (fun _ _ => rfl) (fun _ _ => rfl))) ?_
    show rowD (pick ks' x) = rowD (pick ks' ((x : Int)).toNat)
    rw [ex]
  · have e : ((List.range S.n).map natD).map (fun d : Dt => match d with | .int i => rowD (pick ks' i.toNat) | _ => .non) = ((List.range S.n).map fun x => pick ks' x).map rowD := by
      rw [List.map_map, List.map_map]
      refine List.map_congr_left fun x _ => ?_
      show rowD (pick ks' ((x : Int)).toNat) = rowD (pick ks' x)
      rw [Int.toNat_natCast]
    rw [e] at a3
    refine q p' xs' _ H4 (S2.trans s4) (S2.free a1) a2 a3 (by rw [List.length_map, List.length_range]) fun x row hrow => ?_
    rw [List.getElem?_map] at hrow
    obtain ⟨x', hx', rfl⟩ := Option.map_eq_some_iff.mp hrow
    have hxn : x < (List.range S.n).length := (List.getElem?_eq_some_iff.mp hx').1
    have ex : x' = x := by
      rw [List.getElem?_eq_getElem hxn, List.getElem_range] at hx'
      exact (Option.some.inj hx').symm
    subst ex
    exact ⟨pick_nodup (hperm.nodup_iff.mpr hP.1) x', fun y hy => hP.2 _ (hperm.mem_iff.mp (mem_pick.mp hy))⟩
end
end Ub
set_option maxHeartbeats 4000000
/-! UbRdB3: works. -/
namespace Ub
open PySem PySem.Spec PyProof.Rows L2
section
variable {P : Program} {w : World} {K : PySem.W.Frag} {mg : PySem.Str → Option Value} {base : Heap} {σ : L2.St} {H H' : Hp} {ta tb te tl tk tv : TE} {ds es : List Dt} {d : Dt} {D : Ends} {tz : TS}
/-- a tuple of numbers, known as one -/
def EvN (te : TE) (σ : L2.St) (H : Hp) (ns : List Nat) : Prop := ∀ H1, Same H H1 → ∀ Q : VK, (∀ v H2, Same H1 H2 → TAt H2 v ns → Q v H2) → te σ H1 Q
theorem TAt.same {v : V} {ns : List Nat} (s : Same H H') (h : TAt H v ns) : TAt H' v ns := h.by (Kp.same s)
theorem n_of {v : V} {ns : List Nat} (h : EvV te σ H v) (t : TAt H v ns) : EvN te σ H ns := fun H1 s Q q => h H1 s Q fun H2 s2 => q v H2 s2 (t.same (s.trans s2))
theorem n_tup {ta : TA} {ns : List Nat} (h : EvA ta σ H (ns.map natD)) (hl : ns.length ≤ 5000) : EvN (tTup ta) σ H ns := x_nats (x_tup h (by rw [List.length_map]; exact hl))
/-- x = [t] -/
theorem q_lst1 {n : Nat} {ns : List Nat} (h : EvN te σ H ns) (k : ∀ v p H1, Same H H1 → H p = none → TAt H1 v ns → H1 p = some (.lst [v]) → tz D (σ.set n (some (.ref p))) H1) : tSeq (tAsg (tLst (tCons te tNil)) (gName n)) tz D σ H :=
  h H (Same.refl H) _ fun v H2 s2 t2 => ⟨by show 1 ≤ sizeLine; decide, fun p hp => k v p _ (s2.trans (same_new hp)) (s2.free hp) (t2.by (Kp.new hp)) upd_same⟩
/-- x = t -/
theorem q_setN {n : Nat} {ns : List Nat} (h : EvN te σ H ns) (k : ∀ v H1, Same H H1 → TAt H1 v ns → tz D (σ.set n (some v)) H1) : tSeq (tAsg te (gName n)) tz D σ H := h H (Same.refl H) _ k
/-- x = {t: e} -/
theorem q_dispT {n : Nat} {ns : List Nat} (hk : EvN tk σ H ns) (hv : Ev tv σ H d) (k : ∀ v p H1, Same H H1 → H p = none → R H1 v d → H1 p = some (.dT [(kOf ns, v)]) → tz D (σ.set n (some (.ref p))) H1) : tSeq (tAsg (tDispT tk tv) (gName n)) tz D σ H :=
  fun p hp => hk _ (same_new hp) _ fun v H1 s1 ⟨b, eb, tb⟩ => hv H1 ((same_new hp).trans s1) _ fun v2 H2 s2 r2 =>
    have e : H2 p = some (.dT []) := s2 _ _ (s1 _ _ upd_same)
    ⟨e, kOf ns, b, eb, by rw [kOf_map]; exact s2 _ _ tb, k v2 p _ (same_mut (((same_new hp).trans s1).trans s2) hp) hp (r2.by (Kp.dict e)) upd_same⟩
/-- k not in d -/
theorem t_dnotin {kvs : List (List L2.Key × V)} {q : Addr} {ns : List Nat} (hk : EvN tk σ H ns) (hd : EvV te σ H (.ref q)) (hq : H q = some (.dT kvs)) : EvT (tB (tDNotIn tk te)) σ H (!(valV kvs (kOf ns)).isSome) := fun H1 s Q k =>
  hk H1 s _ fun v H2 s2 ⟨b, eb, tb⟩ => hd H2 (s.trans s2) _ fun H3 s3 => by
    subst eb
    refine ⟨q, _, rfl, DGet.t (k := kOf ns) (s3 _ _ (s2 _ _ (s _ _ hq))) (by rw [kOf_map]; exact s3 _ _ tb), _, rfl, k H3 (s2.trans s3)⟩
theorem notin_iff {α : Type} {kvs : List (List L2.Key × V)} {f : α → List Nat} {kn : List α} {u : α} (hf : ∀ a b, f a = f b → a = b) (h : kvs.map (·.1) = kn.map fun t => kOf (f t)) : (!(valV kvs (kOf (f u))).isSome) = true ↔ u ∉ kn := by
  have e : kOf (f u) ∈ kvs.map (·.1) ↔ u ∈ kn := by
    rw [h]
    constructor
    · intro z
      obtain ⟨t, ht, e⟩ := List.mem_map.mp z
      have := hf _ _ (kOf_inj e)
      subst this
      exact ht
    · intro z
      exact List.mem_map.mpr ⟨u, z, rfl⟩
  by_cases hu : u ∈ kn
  · obtain ⟨v, hv, _⟩ := valV_in (e.mpr hu)
    rw [hv]
    simp [hu]
  · rw [valV_not (fun z => hu (e.mp z))]
    simp [hu]

/-! ### works -/
/-- the two objects of the search -/
structure WI (p q : Addr) (Hb : Hp) (kn wt : List Triple) (H' : Hp) : Prop where
  same : Same Hb H'
  wx : ∃ xs, H' p = some (.lst xs) ∧ Paired (fun v t => TAt H' v (tl3 t)) xs wt
  kx : ∃ kvs, H' q = some (.dT kvs) ∧ kvs.map (·.1) = kn.map fun t => kOf (tl3 t)
theorem WI.by {p q : Addr} {Hb H3 : Hp} {kn wt : List Triple} (w : WI p q Hb kn wt H') (s : Same H' H3) : WI p q Hb kn wt H3 := by
  obtain ⟨a, ⟨xs, b1, b2⟩, ⟨kvs, c1, c2⟩⟩ := w
  exact ⟨a.trans s, ⟨xs, s _ _ b1, paired_by (fun _ _ t => t.same s) b2⟩, ⟨kvs, s _ _ c1, c2⟩⟩
/-- known[triple] = True; waiting.append(triple) -/
theorem wi_put {p q : Addr} {Hb : Hp} {kn wt : List Triple} {u : Triple} {tvv : V} {n1 n2 n3 : Nat} (w : WI p q Hb kn wt H) (hp : Hb p = none) (hq : Hb q = none) (hu : u ∉ kn) (ht : TAt H tvv (tl3 u)) (h1 : σ[n1]? = some (some (.ref q))) (h2 : σ[n2]? = some (some tvv)) (h3 : σ[n3]? = some (some (.ref p)))
    (hz : kn.length ≤ 5000) (hz2 : wt.length ≤ 5000) (k : ∀ H1, Kp H H1 → WI p q Hb (kn ++ [u]) (wt ++ [u]) H1 → D.nx σ H1) : tSeq (sDPut (tVar n1) (tVar n2) (tC (.bl true))) (tDrop (tBM K "list" rAppend (tVar n3) (tCons (tVar n2) tNil))) D σ H := by
  obtain ⟨a, ⟨xs, b1, b2⟩, ⟨kvs, c1, c2⟩⟩ := w
  obtain ⟨b, rfl, tb⟩ := ht
  have hnk : kOf (tl3 u) ∉ kvs.map (·.1) := by
    rw [c2]
    intro z
    obtain ⟨t, ht, e⟩ := List.mem_map.mp z
    have := tl3_inj (kOf_inj e)
    subst this
    exact hu ht
  have lk : kvs.length = kn.length := by
    have := congrArg List.length c2
    rw [List.length_map, List.length_map] at this
    exact this
  have npq : p ≠ q := ne_of b1 c1 (fun z => nomatch z)
  refine ⟨.ref q, h1, .ref b, h2, q, _, rfl, DPut.t (k := kOf (tl3 u)) c1 (by rw [kOf_map]; exact tb) (sz2 (by omega)), ?_⟩
  rw [putK_not hnk]
  have e3 : (upd H q (.dT (kvs ++ [(kOf (tl3 u), V.bl true)]))) p = some (.lst xs) := by rw [upd_ne npq]; exact b1
  refine ⟨.ref p, h3, .inl ⟨rfl, xs, sqL_of e3⟩, .ref b, h2, p, xs, .ref b, rfl, rfl, e3, sz2 (by rw [paired_len b2]; exact hz2), k _ ((Kp.dict c1).trans (Kp.list e3)) ⟨?_, ⟨_, upd_same, ?_⟩, ⟨kvs ++ [(kOf (tl3 u), V.bl true)], ?_, ?_⟩⟩⟩
  · exact same_mut (same_mut a hq) hp
  · have kk : Kp H (upd (upd H q (.dT (kvs ++ [(kOf (tl3 u), V.bl true)]))) p (.lst (xs ++ [.ref b]))) := (Kp.dict c1).trans (Kp.list e3)
    exact paired_snoc ⟨b, rfl, kk.tup _ _ tb⟩ (paired_by (fun _ _ t => t.by kk) b2)
  · rw [upd_ne (Ne.symm npq)]
    exact upd_same
  · rw [List.map_append, List.map_append, c2]
    rfl
/-- the frame of works -/
abbrev wkS (v0 v3 v5 v6 : V) (x c i : Nat) (p q : Addr) (l : List (Option V)) : L2.St := some v0 :: some (.int x) :: some (.int c) :: some v3 :: some (.int i) :: some v5 :: some v6 :: some (.ref p) :: some (.ref q) :: l
/-- at the head of the while -/
def WkI (S : Sys) (ru : Rule) (t0 : Triple) (v0 v3 v5 v6 : V) (x c : Nat) (p q : Addr) (Hb : Hp) (mm : Nat) (σ' : L2.St) (H' : Hp) : Prop :=
  ∃ kn wt x9 x10 x11 x12 x13 x14, σ' = wkS v0 v3 v5 v6 x c ru.init p q [x9, x10, x11, x12, x13, x14] ∧ WI p q Hb kn wt H' ∧ Dfs (ru.succ S) ru.good t0 kn wt ∧ mm = 2 * (128 - kn.length) + wt.length ∧ wt.length ≤ kn.length
/-- within the for -/
def WkJ (S : Sys) (ru : Rule) (t0 t : Triple) (v0 v3 v5 v6 : V) (x c : Nat) (p q : Addr) (Hb : Hp) (mm i : Nat) (σ' : L2.St) (H' : Hp) : Prop :=
  ∃ kn wt x12 x13 x14, σ' = wkS v0 v3 v5 v6 x c ru.init p q [some (.int (t.1 : Int)), some (.int (t.2.1 : Int)), some (.int (t.2.2 : Int)), x12, x13, x14] ∧ WI p q Hb kn wt H' ∧ DfsAt (ru.succ S) ru.good t0 t kn wt ∧ (∀ j, j < i → ru.one S t j ∈ kn) ∧
    2 * (128 - kn.length) + wt.length < mm ∧ wt.length ≤ kn.length
theorem f_works (D : DefAt K mg "works" s_works) (B : Bi mg) (C1 : Cal P w K mg base "step" 1 ["system", "state", "command"] spStep) : Cal P w K mg base "works" 2 ["system", "state", "command", "rule"] spWorks := by
  refine cal_works D B C1 (len_spP fun ds P ⟨S, x, c, r, m, _, _, e, _⟩ => by rw [e]; rfl) ?_
  rintro _ H Q E ⟨ds, P, r, ⟨S, x, c, ru, m, ac, o, rfl, hP⟩, q⟩
  obtain ⟨v0, v1, v2, v3, rfl, r0, r1, r2, r3⟩ := r.four
  have hq : ∀ b v H', Same H H' → R H' v (.bl b) → (b = true ↔ ru.Works S (S.step x c) x) → Q v H' := fun b v H' s r hb => q v H' _ s r (hP b hb)
  clear q hP
  have ok := ac.ok
  have e1 := r1.int_eq
  have e2 := r2.int_eq
  subst e1 e2
  refine q_unp3 (e_var rfl r3) fun v4 v5 v6 H1 s1 a4 a5 a6 => ?_
  have e4 := a4.int_eq
  subst e4
  have r0a := r0.by (Kp.same s1)
  -- waiting
  refine q_lst1 (n_tup (ns := tl3 (S.step x c, x, ru.init)) (a_cons (e_call (d := natD (S.step x c)) (a_cons (e_var rfl r0a) (a_cons (e_var rfl (.int _)) (a_cons (e_var rfl (.int _)) a_nil))) ⟨S, x, c, ok, ac.x, ac.c, rfl, rfl⟩) (a_cons (e_var rfl (.int _)) (a_cons (e_var rfl (.int _)) a_nil))) (Nat.le_of_ble_eq_true rfl)) fun tv p H2 s2 hp ht hpl => ?_
  -- known
  refine q_dispT (n_of (v_ixL (n := 0) hpl (v_var rfl) e_int rfl) ht) e_bl fun _ q' H3 s3 hq' _ hql => ?_
  have hqb : H1 q' = none := s2.free hq'
  have W0 : WI p q' H1 [(S.step x c, x, ru.init)] [(S.step x c, x, ru.init)] H3 := ⟨s2.trans s3, ⟨[tv], s3 _ _ hpl, .cons (ht.same s3) .nil⟩, ⟨_, hql, rfl⟩⟩
  generalize ht0 : (S.step x c, x, ru.init) = t0 at W0
  have hR : ∀ t, Rch (ru.succ S) t0 t → InB S m t := fun t h => by rw [← ht0] at h; exact o.rch ok ac.a ac.x h
  have hF : ∀ {l : List Triple}, l.Nodup → (∀ t ∈ l, Rch (ru.succ S) t0 t) → l.length ≤ 128 := fun {l} hn h => by rw [← ht0] at h; exact o.few ok ac.a ac.x hn h
  have hW : ∀ {b : Bool}, (b = true ↔ ∀ t, Rch (ru.succ S) t0 t → ru.good t) → (b = true ↔ ru.Works S (S.step x c) x) := fun {b} h => by rw [← ht0] at h; exact h
  -- while waiting
  show tWhile _ _ _ _ _
  refine ⟨WkI S ru t0 v0 v3 v5 v6 x c p q' H1, ⟨_, [t0], [t0], none, none, none, none, none, none, rfl, W0, .start, rfl, Nat.le_refl _⟩, ?_⟩
  rintro mm σ' H' ⟨kn, wt, x9, x10, x11, x12, x13, x14, rfl, W, df, hmm, hwk⟩
  obtain ⟨sb, ⟨xs, b1, b2⟩, ⟨kvs, c1, c2⟩⟩ := id W
  refine ⟨.ref p, rfl, !xs.isEmpty, .inl ⟨xs, sqL_of b1, rfl⟩, ?_⟩
  have SH : Same H H' := s1.trans sb
  by_cases hx : xs = []
  · -- return True
    subst hx
    have hw : wt = [] := by
      have := paired_len b2
      exact List.eq_nil_of_length_eq_zero this.symm
    subst hw
    refine iteF ?_
    dsimp only
    exact (s_ret (d := .bl true) e_bl fun v H4 s4 r4 => hq true v H4 (SH.trans s4) r4 (hW ⟨fun _ t ht => (df.all ht).2, fun _ => rfl⟩))
  · have hne : (!xs.isEmpty) = true := by
      cases xs with
      | nil => exact absurd rfl hx
      | cons a l => rfl
    rw [hne]
    refine iteT ⟨fun σ' H' => ∃ m', m' < mm ∧ WkI S ru t0 v0 v3 v5 v6 x c p q' H1 m' σ' H', fun σ' H' h => h, ?_⟩
    -- x, y, note = waiting.pop()
    obtain ⟨w', t, rfl⟩ : ∃ w' t, wt = w' ++ [t] := by
      have hl := paired_len b2
      have hwn : wt ≠ [] := fun z => by
        rw [z] at hl
        exact hx (List.eq_nil_of_length_eq_zero hl)
      exact ⟨wt.dropLast, wt.getLast hwn, (List.dropLast_concat_getLast hwn).symm⟩
    obtain ⟨xs', tv', rfl, b3, a', rfl, ta'⟩ := paired_last b2
    have tin : InB S m t := hR t (df.rch t (df.sub t (by simp)))
    obtain ⟨tx, ty, tz'⟩ := id tin
    have hlast : (xs' ++ [V.ref a'])[(xs' ++ [V.ref a']).length - 1]? = some (.ref a') := by simp
    have kp1 : Kp H' (upd H' p (.lst (xs' ++ [V.ref a']).dropLast)) := Kp.list b1
    have W1 : WI p q' H1 kn w' (upd H' p (.lst (xs' ++ [V.ref a']).dropLast)) := by
      refine ⟨same_mut sb hp, ⟨_, upd_same, ?_⟩, ⟨kvs, ?_, c2⟩⟩
      · rw [List.dropLast_concat]
        rw [List.dropLast_concat] at kp1
        exact paired_by (fun _ _ t => t.by kp1) b3
      · rw [upd_ne (ne_of c1 b1 (fun z => nomatch z))]
        exact c1
    have ta1 : (upd H' p (.lst (xs' ++ [V.ref a']).dropLast)) a' = some (.tup [.int (t.1 : Int), .int (t.2.1 : Int), .int (t.2.2 : Int)]) := kp1.tup _ _ ta'
    refine ⟨.ref p, rfl, .inl ⟨rfl, _, sqL_of b1⟩, p, _, .ref a', rfl, rfl, b1, hlast, a', _, rfl, .inl (.inl ta1), rfl, _, _, rfl, _, _, rfl, _, _, rfl, rfl, ?_⟩
    generalize upd H' p (.lst (xs' ++ [V.ref a']).dropLast) = H4 at W1 ta1
    have S4 : Same H H4 := s1.trans W1.same
    have k4 := Kp.same W1.same
    have q5 := a5.by k4
    have q6 := a6.by k4
    obtain ⟨z1, z2, z3⟩ := o.resRow tx
    have g1 : (ru.res.map rowD)[t.1]? = some (rowD (ru.res.getD t.1 [])) := by rw [List.getElem?_map, z1]; rfl
    have g2 : ((ru.res.getD t.1 []).map natD)[t.2.2]? = some (natD (ru.resAt t.1 t.2.2)) := by rw [List.getElem?_map, (o.resAt tx tz').1]; rfl
    have ds := df.pop
    have hkn : kn.length ≤ 128 := hF df.nd df.rch
    rw [List.length_append, List.length_singleton] at hmm hwk
    -- if results[x][note] != y: return False
    refine q_if (t_test (e_neI (e_ixT (n := t.2.2) (e_ixT (n := t.1) (e_var rfl q5) (e_var rfl (.int _)) g1) (e_var rfl (.int _)) g2) (e_var rfl (.int _)))) (fun h H5 s5 => ?_) fun h H5 s5 => ?_
    · refine s_ret (d := .bl false) e_bl fun v H6 s6 r6 => hq false v H6 ((S4.trans s5).trans s6) r6 (hW ⟨fun z => (nomatch z), fun z => ?_⟩)
      have hg : ru.resAt t.1 t.2.2 = t.2.1 := z t (ds.rch t ds.at_)
      rw [hg, decide_eq_true rfl] at h
      cases h
    · have hgood : ru.good t := by
        have := of_decide_eq_true (nb h)
        show ru.resAt t.1 t.2.2 = t.2.1
        omega
      have W2 := W1.by s5
      have k5 := Kp.same s5
      obtain ⟨y1, y2, y3⟩ := o.nxtA tx
      obtain ⟨u1, u2, u3⟩ := o.nxtRow tx tz'
      have g3 : (ru.nxt.map nxtD)[t.1]? = some (nxtD (ru.nxt.getD t.1 [])) := by rw [List.getElem?_map, y1]; rfl
      have g4 : ((ru.nxt.getD t.1 []).map rowD)[t.2.2]? = some (rowD (ru.nxtRow t.1 t.2.2)) := by rw [List.getElem?_map, u1]; rfl
      have hrow : Ev (tOp (rIxT K) (tOp (rIxT K) (tVar 6) (tVar 9)) (tVar 11)) (wkS v0 v3 v5 v6 x c ru.init p q' [some (.int (t.1 : Int)), some (.int (t.2.1 : Int)), some (.int (t.2.2 : Int)), x12, x13, x14]) H5 (rowD (ru.nxtRow t.1 t.2.2)) :=
        e_ixT (n := t.2.2) (e_ixT (n := t.1) (e_var rfl (q6.by k5)) (e_var rfl (.int _)) g3) (e_var rfl (.int _)) g4
      -- for number, onward in enumerate(nexts[x][note])
      refine hrow H5 (Same.refl H5) _ fun v H6 s6 r6 => ?_
      obtain ⟨ra, rxs, rfl, rd, rr⟩ := r6.tup_at
      have hrx : rxs = (ru.nxtRow t.1 t.2.2).map fun n : Nat => V.int (n : Int) := RA.nats rr
      subst hrx
      have W3 := W2.by s6
      refine ⟨ra, _, rfl, sqT_of rd, for_enumT (xs := (ru.nxtRow t.1 t.2.2).map fun n : Nat => V.int (n : Int)) (fun i σ' H' => WkJ S ru t0 t v0 v3 v5 v6 x c p q' H1 mm i σ' H' ∧ Rd H' ra (.tup ((ru.nxtRow t.1 t.2.2).map fun n : Nat => V.int (n : Int)))) ?_ ?_ ?_ ?_⟩
      · exact ⟨⟨kn, w', x12, x13, x14, rfl, W3, ds, fun j hj => absurd hj (Nat.not_lt_zero _), by omega, by omega⟩, rd⟩
      · exact fun i σ H _ p => sqT_of p.2
      · rintro i y T σ' H' hy ⟨⟨kn1, wt1, y12, y13, y14, rfl, W4, ds4, hdone, hm4, hw4⟩, rd4⟩ hT
        rw [List.getElem?_map] at hy
        obtain ⟨onw, how, rfl⟩ := Option.map_eq_some_iff.mp hy
        have hi : i < S.T.length := by
          have := (List.getElem?_eq_some_iff.mp how).1
          omega
        have eonw : onw = ru.nxtAt t.1 t.2.2 i := by
          have h2 := (o.nxtAt tx tz' hi).1
          rw [how] at h2
          exact Option.some.inj h2
        subst eonw
        refine ⟨T, _, rfl, .inl (.inl upd_same), rfl, _, _, rfl, _, _, rfl, rfl, ?_⟩
        have W5 := W4.by (same_new (o := HO.tup [V.int (i : Nat), V.int (ru.nxtAt t.1 t.2.2 i : Int)]) hT)
        have rd5 := rd_kp (Kp.new (o := HO.tup [V.int (i : Nat), V.int (ru.nxtAt t.1 t.2.2 i : Int)]) hT) rd4
        generalize upd H' T (.tup [V.int (i : Nat), V.int (ru.nxtAt t.1 t.2.2 i : Int)]) = H7 at W5 rd5
        have q0 := r0a.by (Kp.same W5.same)
        -- triple
        refine q_setN (n_tup (ns := tl3 (ru.one S t i)) (a_cons (e_call (d := natD (S.step t.1 i)) (a_cons (e_var rfl q0) (a_cons (e_var rfl (.int _)) (a_cons (e_var rfl (.int _)) a_nil))) ⟨S, t.1, i, ok, tx, hi, rfl, rfl⟩) (a_cons (e_call (d := natD (S.step t.2.1 i)) (a_cons (e_var rfl q0) (a_cons (e_var rfl (.int _)) (a_cons (e_var rfl (.int _)) a_nil))) ⟨S, t.2.1, i, ok, ty, hi, rfl, rfl⟩) (a_cons (e_var rfl (.int _)) a_nil))) (Nat.le_of_ble_eq_true rfl)) fun tv H8 s8 t8 => ?_
        have W6 := W5.by s8
        obtain ⟨_, _, ⟨kvs6, c6, d6⟩⟩ := id W6
        refine s_if (t_dnotin (n_of (v_var rfl) t8) (v_var rfl) c6) (fun h H9 s9 => ?_) fun h H9 s9 => ?_
        · have hnk : ru.one S t i ∉ kn1 := (notin_iff (fun _ _ => tl3_inj) d6).mp h
          have ds5 := ds4.put (ru.succ_mem hi) hnk
          have hl5 := hF ds5.nd ds5.rch
          rw [List.length_append, List.length_singleton] at hl5
          refine wi_put (u := ru.one S t i) (W6.by s9) hp hqb hnk (t8.same s9) rfl rfl rfl (by omega) (by omega) fun H10 k10 W7 => ?_
          refine ⟨⟨_, _, _, _, _, rfl, W7, ds5, fun j hj => ?_, ?_, ?_⟩, ?_⟩
          · by_cases hji : j = i
            · rw [hji]; exact List.mem_append_right _ (List.mem_singleton.mpr rfl)
            · exact List.mem_append_left _ (hdone j (by omega))
          · rw [List.length_append, List.length_singleton, List.length_append, List.length_singleton]
            omega
          · rw [List.length_append, List.length_singleton, List.length_append, List.length_singleton]
            omega
          · exact rd_kp ((Kp.same (s8.trans s9)).trans k10) rd5
        · have hnk : ru.one S t i ∈ kn1 := by
            by_cases z : ru.one S t i ∈ kn1
            · exact z
            · rw [(notin_iff (fun _ _ => tl3_inj) d6).mpr z] at h
              cases h
          refine ⟨⟨_, _, _, _, _, rfl, W6.by s9, ds4, fun j hj => ?_, hm4, hw4⟩, rd_kp (Kp.same (s8.trans s9)) rd5⟩
          by_cases hji : j = i
          · rw [hji]; exact hnk
          · exact hdone j (by omega)
      · rintro σ' H' ⟨⟨kn1, wt1, y12, y13, y14, rfl, W4, ds4, hdone, hm4, hw4⟩, rd4⟩
        rw [List.length_map, u2] at hdone
        exact ⟨_, hm4, kn1, wt1, _, _, _, _, _, _, rfl, W4, ds4.close hgood (fun u hu => by
          obtain ⟨i, hi, rfl⟩ := ru.succ_of hu
          exact hdone i hi), rfl, hw4⟩
end
end Ub
set_option maxHeartbeats 4000000
/-! UbPr: pairs_from, _law_pairs. -/
namespace Ub
open PySem PySem.Spec PyProof.Rows L2
section
variable {P : Program} {w : World} {K : PySem.W.Frag} {mg : PySem.Str → Option Value} {base : Heap} {σ : L2.St} {H H' : Hp} {ta tb tc te tl tk tv tx : TE} {ds es : List Dt} {d : Dt} {D : Ends} {tz : TS}
theorem paired_get {α β : Type} {F : α → β → Prop} : ∀ {l : List α} {m : List β} {i : Nat} {b : β}, Paired F l m → m[i]? = some b → ∃ a, l[i]? = some a ∧ F a b
  | _, _, _, _, .nil, e => by simp at e
  | _, _, 0, _, .cons q _, e => by
    have e' := Option.some.inj e
    subst e'
    exact ⟨_, rfl, q⟩
  | _, _, i + 1, _, .cons _ t, e => by
    obtain ⟨b, h1, h2⟩ := paired_get (i := i) t (by simpa using e)
    exact ⟨b, by simpa using h1, h2⟩
/-- t + u, tuples -/
theorem e_cat (ha : Ev ta σ H (.tup ds)) (hb : Ev tb σ H (.tup es)) (hl : ds.length + es.length ≤ 5000) : Ev (tOp (rCatA K) ta tb) σ H (.tup (ds ++ es)) := fun H1 s Q q =>
  ha H1 s _ fun va H2 s2 r2 => hb H2 (s.trans s2) _ fun vb H3 s3 r3 => by
    obtain ⟨a, xs, rfl, a1, a2⟩ := (r2.by (Kp.same s3)).tup_at
    obtain ⟨b, ys, rfl, b1, b2⟩ := r3.tup_at
    refine ⟨a, b, xs, ys, rfl, rfl, sqT_of a1, sqT_of b1, sz1 (by rw [a2.length, b2.length]; exact hl), fun e => ?_, fun e1 e => ?_, fun e1 e2 p hp => ?_⟩
    · subst e
      cases a2
      exact q _ _ (s2.trans s3) (.tup b1 b2)
    · subst e
      cases b2
      rw [List.append_nil] at q
      exact q _ _ (s2.trans s3) (.tup a1 a2)
    · exact q _ _ ((s2.trans s3).trans (same_new hp)) (.tup (.inl upd_same) ((a2.append b2).by (Kp.new hp)))
theorem EvN.toD {ns : List Nat} (h : EvN te σ H ns) : Ev te σ H (.tup (ns.map natD)) := fun H1 s Q q => h H1 s Q fun v H2 s2 t => q v H2 s2 t.r
/-- system[2][command][state] -/
theorem e_cell {S : Sys} {x c : Nat} (ok : S.Ok) (hx : x < S.n) (hc : c < S.T.length) (h0 : Ev ta σ H (sysD S)) (h1 : Ev tb σ H (natD c)) (h2 : Ev tc σ H (natD x)) : Ev (tOp (rIxT K) (tOp (rIxT K) (tOp (rIxT K) ta (tC (.int 2))) tb) tc) σ H (natD (S.step x c)) := by
  refine e_ixT (n := x) (e_ixT (n := c) (e_ixC 2 h0 rfl) h1 (d := rowD (S.T.getD c [])) ?_) h2 ?_
  · rw [List.getElem?_map, (ok.row hc).1]
    rfl
  · rw [List.getElem?_map, ok.at_ hc hx]
    rfl
theorem e_cmds {S : Sys} (h0 : Ev ta σ H (sysD S)) : Ev (tCB (rLn K) (tCons (tOp (rIxT K) ta (tC (.int 2))) tNil)) σ H (natD S.T.length) :=
  Ev.is (e_lenT (e_ixC 2 h0 rfl)) (by rw [List.length_map]; rfl)

/-! ### the dict of pairs, the list of pairs -/
structure PI (q : Addr) (Hb : Hp) (ks : List Pair) (H' : Hp) : Prop where
  same : Same Hb H'
  kx : ∃ kvs, H' q = some (.dT kvs) ∧ kvs.map (·.1) = ks.map pairK ∧ ∀ kv ∈ kvs, ∃ ds, R H' kv.2 (.tup ds) ∧ ds.length ≤ kvs.length
def PL (p : Addr) (wt : List Pair) (H' : Hp) : Prop := ∃ xs, H' p = some (.lst xs) ∧ Paired (fun v t => TAt H' v (tl2 t)) xs wt
theorem PI.by {q : Addr} {Hb H3 : Hp} {ks : List Pair} (w : PI q Hb ks H') (s : Same H' H3) : PI q Hb ks H3 := by
  obtain ⟨a, ⟨kvs, c1, c2, c3⟩⟩ := w
  exact ⟨a.trans s, ⟨kvs, s _ _ c1, c2, fun kv h => let ⟨ds, h1, h2⟩ := c3 kv h; ⟨ds, h1.by (Kp.same s), h2⟩⟩⟩
theorem PL.by {p : Addr} {H3 : Hp} {wt : List Pair} (w : PL p wt H') (s : Same H' H3) : PL p wt H3 := by
  obtain ⟨xs, b1, b2⟩ := w
  exact ⟨xs, s _ _ b1, paired_by (fun _ _ t => t.same s) b2⟩
theorem n_pl {p : Addr} {wt : List Pair} {i : Nat} {t : Pair} (w : PL p wt H) (hl : EvV tl σ H (.ref p)) (hi : Ev tx σ H (.int (i : Int))) (ht : wt[i]? = some t) : EvN (tOp (rIxL K) tl tx) σ H (tl2 t) := by
  obtain ⟨xs, b1, b2⟩ := w
  obtain ⟨v, h1, h2⟩ := paired_get b2 ht
  exact n_of (v_ixL b1 hl hi h1) h2
theorem e_dget {q : Addr} {Hb : Hp} {ks : List Pair} {t : Pair} {n : Nat} (w : PI q Hb ks H) (h1 : σ[n]? = some (some (.ref q))) (hk : EvN tk σ H (tl2 t)) (ht : t ∈ ks) : ∃ ds, Ev (tDGet (tVar n) tk) σ H (.tup ds) ∧ ds.length ≤ ks.length := by
  obtain ⟨a, ⟨kvs, c1, c2, c3⟩⟩ := w
  have lk : kvs.length = ks.length := by
    have := congrArg List.length c2
    rw [List.length_map, List.length_map] at this
    exact this
  have hm : pairK t ∈ kvs.map (·.1) := by
    rw [c2]
    exact List.mem_map.mpr ⟨t, ht, rfl⟩
  obtain ⟨v, hv, hin⟩ := valV_in hm
  obtain ⟨ds, r, hl⟩ := c3 _ hin
  refine ⟨ds, fun H1 s Q qq => ⟨.ref q, h1, hk H1 s _ fun y H2 s2 ⟨b, eb, tb⟩ => ?_⟩, by rw [← lk]; exact hl⟩
  have e := DGet.t (k := kOf (tl2 t)) (s2 _ _ (s _ _ c1)) (by rw [kOf_map]; exact tb)
  have e2 : valV kvs (kOf (tl2 t)) = some v := hv
  rw [e2] at e
  exact ⟨q, v, rfl, eb ▸ e, qq v H2 s2 (r.by (Kp.same (s.trans s2)))⟩
/-- found[later] = found[pair] + (command,); fresh.append(later) -/
theorem pi_put {p q : Addr} {Hb : Hp} {ks fr : List Pair} {t u : Pair} {uv : V} {i n1 n2 n3 n4 : Nat} (w : PI q Hb ks H) (l : PL p fr H) (hp : Hb p = none) (hq : Hb q = none) (hu : u ∉ ks) (ht : t ∈ ks) (hv : TAt H uv (tl2 u)) (hk : EvN tk σ H (tl2 t))
    (h1 : σ[n1]? = some (some (.ref q))) (h2 : σ[n2]? = some (some uv)) (h3 : σ[n3]? = some (some (.ref p))) (h4 : σ[n4]? = some (some (.int (i : Int)))) (hz : ks.length ≤ 4000) (hz2 : fr.length ≤ 4000)
    (k : ∀ H1, Kp H H1 → (∀ b o, b ≠ p → b ≠ q → H b = some o → H1 b = some o) → PI q Hb (ks ++ [u]) H1 → PL p (fr ++ [u]) H1 → D.nx σ H1) :
    tSeq (sDPut (tVar n1) (tVar n2) (tOp (rCatA K) (tDGet (tVar n1) tk) (tTup (tCons (tVar n4) tNil)))) (tDrop (tBM K "list" rAppend (tVar n3) (tCons (tVar n2) tNil))) D σ H := by
  obtain ⟨ds, hd, hdl⟩ := e_dget w h1 hk ht
  have hcat : Ev (tOp (rCatA K) (tDGet (tVar n1) tk) (tTup (tCons (tVar n4) tNil))) σ H (.tup (ds ++ [.int (i : Int)])) := e_cat hd (e_tup (a_cons (e_var h4 (.int _)) a_nil) (Nat.le_of_ble_eq_true rfl)) (by rw [List.length_singleton]; omega)
  refine hcat H (Same.refl H) _ fun v H1 s1 r1 => ?_
  obtain ⟨a, ⟨kvs, c1, c2, c3⟩⟩ := w.by s1
  obtain ⟨xs, b1, b2⟩ := l.by s1
  obtain ⟨b, rfl, tb⟩ := hv.same s1
  have hnk : pairK u ∉ kvs.map (·.1) := by
    rw [c2]
    intro z
    obtain ⟨t, ht, e⟩ := List.mem_map.mp z
    have := tl2_inj (kOf_inj (ns := tl2 t) (ms := tl2 u) e)
    subst this
    exact hu ht
  have lk : kvs.length = ks.length := by
    have := congrArg List.length c2
    rw [List.length_map, List.length_map] at this
    exact this
  have npq : p ≠ q := ne_of b1 c1 (fun z => nomatch z)
  refine ⟨.ref q, h1, .ref b, h2, q, _, rfl, DPut.t (k := kOf (tl2 u)) c1 (by rw [kOf_map]; exact tb) (sz2 (by omega)), ?_⟩
  have epk : kOf (tl2 u) = pairK u := rfl
  rw [epk, putK_not hnk]
  have e3 : (upd H1 q (.dT (kvs ++ [(pairK u, v)]))) p = some (.lst xs) := by rw [upd_ne npq]; exact b1
  have kk : Kp H1 (upd (upd H1 q (.dT (kvs ++ [(pairK u, v)]))) p (.lst (xs ++ [.ref b]))) := (Kp.dict c1).trans (Kp.list e3)
  refine ⟨.ref p, h3, .inl ⟨rfl, xs, sqL_of e3⟩, .ref b, h2, p, xs, .ref b, rfl, rfl, e3, sz2 (by rw [paired_len b2]; omega), k _ ((Kp.same s1).trans kk) (fun b' o' e1 e2 e => ?_) ⟨same_mut (same_mut a hq) hp, kvs ++ [(pairK u, v)], ?_, ?_, ?_⟩ ⟨_, upd_same, ?_⟩⟩
  · rw [upd_ne e1, upd_ne e2]
    exact s1 _ _ e
  · rw [upd_ne (Ne.symm npq)]
    exact upd_same
  · rw [List.map_append, List.map_append, c2]
    rfl
  · intro kv hkv
    rw [List.length_append, List.length_singleton]
    rcases List.mem_append.mp hkv with hkv | hkv
    · obtain ⟨ds', r', hl'⟩ := c3 kv hkv
      exact ⟨ds', r'.by kk, by omega⟩
    · rw [List.mem_singleton.mp hkv]
      exact ⟨_, r1.by kk, by rw [List.length_append, List.length_singleton]; omega⟩
  · exact paired_snoc ⟨b, rfl, kk.tup _ _ tb⟩ (paired_by (fun _ _ t => t.by kk) b2)
theorem pi_notin {q : Addr} {Hb : Hp} {ks : List Pair} {u : Pair} (w : PI q Hb ks H) (hk : EvN tk σ H (tl2 u)) (hd : EvV te σ H (.ref q)) : ∃ b : Bool, EvT (tB (tDNotIn tk te)) σ H b ∧ (b = true ↔ u ∉ ks) := by
  obtain ⟨a, ⟨kvs, c1, c2, c3⟩⟩ := w
  exact ⟨_, t_dnotin hk hd c1, notin_iff (f := tl2) (fun _ _ => tl2_inj) c2⟩

/-! ### pairs_from -/
def PfF (S : Sys) (a b : Nat) (q p4 p5 : Addr) (Hb : Hp) (xs : List V) (wt ks0 ks fr : List Pair) (H' : Hp) : Prop :=
  PI q Hb ks H' ∧ PL p5 fr H' ∧ H' p4 = some (.lst xs) ∧ Paired (fun v t => TAt H' v (tl2 t)) xs wt ∧ pairsP S a b ks ∧ (∀ t ∈ wt, t ∈ ks) ∧ (∀ t ∈ fr, t ∈ ks) ∧ ks0.length + fr.length = ks.length
def PfI (S : Sys) (a b : Nat) (v0 : V) (q : Addr) (Hb : Hp) (mm : Nat) (σ' : L2.St) (H' : Hp) : Prop :=
  ∃ ks wt p4 x5 x6 x7 x8, σ' = [some v0, some (.int (a : Int)), some (.int (b : Int)), some (.ref q), some (.ref p4), x5, x6, x7, x8] ∧ PI q Hb ks H' ∧ PL p4 wt H' ∧ pairsP S a b ks ∧ (∀ t ∈ wt, t ∈ ks) ∧ mm = 2 * (16 - ks.length) + min 1 wt.length
theorem f_pairs_from (D : DefAt K mg "pairs_from" s_pairs_from) (B : Bi mg) (C1 : Cal P w K mg base "step" 1 ["system", "state", "command"] spStep) : Cal P w K mg base "pairs_from" 2 ["system", "one", "other"] spPairsFrom := by
  refine cal_pairs_from D B C1 (fun vs H Q E ⟨S, a, b, _, _, _, r, _⟩ => by rw [r.length]; rfl) ?_
  rintro _ H Q E ⟨S, a, b, ok, ha, hb, r, q⟩
  obtain ⟨v0, v1, v2, rfl, r0, r1, r2⟩ := r.three
  have e1 := r1.int_eq
  have e2 := r2.int_eq
  subst e1 e2
  have c3 := ok.c3
  refine q_dispT (n_tup (ns := tl2 (a, b)) (a_cons (e_var rfl r1) (a_cons (e_var rfl r2) a_nil)) (Nat.le_of_ble_eq_true rfl)) (e_tup a_nil (Nat.zero_le _)) fun v q' H1 s1 hq' rv hql => ?_
  have I1 : PI q' H [(a, b)] H1 := ⟨s1, _, hql, rfl, fun kv hkv => by
    rw [List.mem_singleton.mp hkv]
    exact ⟨[], rv, Nat.zero_le _⟩⟩
  refine q_lst1 (n_tup (ns := tl2 (a, b)) (a_cons (e_var rfl (r1.by (Kp.same s1))) (a_cons (e_var rfl (r2.by (Kp.same s1))) a_nil)) (Nat.le_of_ble_eq_true rfl)) fun v p H2 s2 hp ht hpl => ?_
  have hF : ∀ {l : List Pair}, pairsP S a b l → l.length ≤ 16 := fun {l} h => ok.few2 ha hb h.1 h.2
  show tWhile _ _ _ _ _
  refine ⟨PfI S a b v0 q' H, ⟨_, [(a, b)], [(a, b)], p, none, none, none, none, rfl, I1.by s2, ⟨_, hpl, .cons ht .nil⟩, ⟨by simp, fun t h => by rw [List.mem_singleton.mp h]; exact .base⟩, fun t h => h, rfl⟩, ?_⟩
  rintro mm σ' H' ⟨ks, wt, p4, x5, x6, x7, x8, rfl, I, ⟨xs, b1, b2⟩, hks, hsub, hmm⟩
  refine ⟨.ref p4, rfl, !xs.isEmpty, .inl ⟨xs, sqL_of b1, rfl⟩, ?_⟩
  have hl := paired_len b2
  by_cases hx : xs = []
  · subst hx
    refine iteF ?_
    dsimp only
    obtain ⟨sb, kvs, c1, c2, _⟩ := I
    exact ⟨.ref q', rfl, q q' kvs ks H' sb hq' c1 c2 hks⟩
  · have hne : (!xs.isEmpty) = true := by
      cases xs with
      | nil => exact absurd rfl hx
      | cons a l => rfl
    rw [hne]
    have hwl : 1 ≤ wt.length := by
      rw [← hl]
      exact List.length_pos_iff.mpr hx
    have e1 : min 1 wt.length = 1 := by omega
    rw [e1] at hmm
    refine iteT ⟨fun σ' H' => ∃ m', m' < mm ∧ PfI S a b v0 q' H m' σ' H', fun σ' H' h => h, ?_⟩
    refine q_setL (l_lst a_nil (Nat.zero_le _)) fun p5 xs5 H3 s3 h5n h5 r5 => ?_
    cases r5
    have h5b : H p5 = none := I.same.free h5n
    refine ⟨.ref p4, rfl, p4, rfl, ⟨xs, sqL_of (s3 _ _ b1)⟩, for_list (xs := xs) (fun i σ' H' => ∃ ks1 fr x6 x7 x8, σ' = [some v0, some (.int (a : Int)), some (.int (b : Int)), some (.ref q'), some (.ref p4), some (.ref p5), x6, x7, x8] ∧ PfF S a b q' p4 p5 H xs wt ks ks1 fr H')
      ⟨ks, [], x6, x7, x8, rfl, I.by s3, ⟨[], h5, .nil⟩, s3 _ _ b1, paired_by (fun _ _ t => t.same s3) b2, hks, hsub, fun t h => (nomatch h), rfl⟩ (fun i σ' H' _ ⟨_, _, _, _, _, _, F⟩ => sqL_of F.2.2.1) ?_ ?_⟩
    · rintro i x σ' H' hix ⟨ks1, fr, y6, y7, y8, rfl, F⟩
      obtain ⟨t, htw, htx⟩ := paired_at F.2.2.2.1 hix
      have htm : t ∈ wt := List.mem_of_getElem? htw
      have tin := ok.rch2 ha hb (F.2.2.2.2.1.2 t (F.2.2.2.2.2.1 t htm))
      have q0 := r0.by (Kp.same F.1.same)
      refine s_forR (n := S.T.length) (a_cons (e_cmds (e_var rfl q0)) a_nil) (by omega) (fun _ j σ' H' => ∃ ks1 fr x7 x8, σ' = [some v0, some (.int (a : Int)), some (.int (b : Int)), some (.ref q'), some (.ref p4), some (.ref p5), some x, x7, x8] ∧ PfF S a b q' p4 p5 H xs wt ks ks1 fr H' ∧ TAt H' x (tl2 t)) (fun H4 s4 => ?_) (fun H4 j σ' H' s4 hj p => ?_) (fun H4 σ' H' s4 p => ?_)
      · obtain ⟨f1, f2, f3, f4, f5, f6, f7, f8⟩ := F
        exact ⟨ks1, fr, y7, y8, rfl, ⟨f1.by s4, f2.by s4, s4 _ _ f3, paired_by (fun _ _ t => t.same s4) f4, f5, f6, f7, f8⟩, htx.same s4⟩
      · obtain ⟨ks2, fr2, z7, z8, rfl, F2, tx2⟩ := p
        have q02 := r0.by (Kp.same F2.1.same)
        have hxv := (n_of (v_var (n := 6) (σ := [some v0, some (.int (a : Int)), some (.int (b : Int)), some (.ref q'), some (.ref p4), some (.ref p5), some x, some (.int (j : Int)), z8]) rfl) tx2).toD
        refine q_setN (n_tup (ns := tl2 (S.step t.1 j, S.step t.2 j)) (a_cons (e_call (d := natD (S.step t.1 j)) (a_cons (e_var rfl q02) (a_cons (e_ixC 0 hxv rfl) (a_cons (e_var rfl (.int _)) a_nil))) ⟨S, t.1, j, ok, tin.1, hj, rfl, rfl⟩) (a_cons (e_call (d := natD (S.step t.2 j)) (a_cons (e_var rfl q02) (a_cons (e_ixC 1 hxv rfl) (a_cons (e_var rfl (.int _)) a_nil))) ⟨S, t.2, j, ok, tin.2, hj, rfl, rfl⟩) a_nil)) (Nat.le_of_ble_eq_true rfl)) fun uv H5 s5 t5 => ?_
        obtain ⟨f1, f2, f3, f4, f5, f6, f7, f8⟩ := F2
        obtain ⟨bb, hbb, hiff⟩ := pi_notin (f1.by s5) (n_of (v_var (n := 8) (σ := [some v0, some (.int (a : Int)), some (.int (b : Int)), some (.ref q'), some (.ref p4), some (.ref p5), some x, some (.int (j : Int)), some uv]) rfl) t5) (v_var (n := 3) rfl)
        refine s_if hbb (fun h H6 s6 => ?_) fun h H6 s6 => ?_
        · have hnu := hiff.mp h
          have hnew : pairsP S a b (ks2 ++ [(S.step t.1 j, S.step t.2 j)]) := by
            refine ⟨?_, fun z hz => ?_⟩
            · have hh := ins_nodup (u := (S.step t.1 j, S.step t.2 j)) f5.1
              unfold ins at hh
              rw [if_neg hnu] at hh
              exact hh
            · rcases List.mem_append.mp hz with hz | hz
              · exact f5.2 z hz
              · rw [List.mem_singleton.mp hz]
                exact .next (f5.2 t (f6 t htm)) (S.succ2_mem hj)
          have few := hF f5
          refine pi_put (i := j) ((f1.by s5).by s6) ((f2.by s5).by s6) h5b hq' hnu (f6 t htm) (t5.same s6) (n_of (v_var (n := 6) rfl) (tx2.same (s5.trans s6))) rfl rfl rfl rfl (by omega) (by omega) fun H7 k7 hoth I7 L7 => ?_
          have hp45 : p4 ≠ p5 := by
            intro z
            subst z
            rw [h5n] at b1
            cases b1
          have hp4q : p4 ≠ q' := by
            obtain ⟨_, kvs, c1, _⟩ := f1
            exact ne_of f3 c1 (fun z => nomatch z)
          refine ⟨_, _, _, _, rfl, ⟨I7, L7, hoth _ _ hp45 hp4q (s6 _ _ (s5 _ _ f3)), paired_by (fun _ _ t => t.by ((Kp.same (s5.trans s6)).trans k7)) f4, hnew, fun z hz => List.mem_append_left _ (f6 z hz), fun z hz => ?_, ?_⟩, tx2.by ((Kp.same (s5.trans s6)).trans k7)⟩
          · rcases List.mem_append.mp hz with hz | hz
            · exact List.mem_append_left _ (f7 z hz)
            · exact List.mem_append_right _ hz
          · rw [List.length_append, List.length_append, ← f8]
            omega
        · exact ⟨_, _, _, _, rfl, ⟨(f1.by s5).by s6, (f2.by s5).by s6, s6 _ _ (s5 _ _ f3), paired_by (fun _ _ t => t.same (s5.trans s6)) f4, f5, f6, f7, f8⟩, tx2.same (s5.trans s6)⟩
      · obtain ⟨ks2, fr2, z7, z8, rfl, F2, tx2⟩ := p
        exact ⟨ks2, fr2, _, _, _, rfl, F2⟩
    · rintro σ' H' ⟨ks1, fr, y6, y7, y8, rfl, f1, f2, f3, f4, f5, f6, f7, f8⟩
      refine ⟨.ref p5, rfl, _, ?_, ks1, fr, p5, _, _, _, _, rfl, f1, f2, f5, f7, rfl⟩
      have few := hF f5
      omega
end
end Ub
set_option maxHeartbeats 4000000
/-! UbLp: _law_pairs, _law_counterparts. -/
namespace Ub
open PySem PySem.Spec PyProof.Rows L2
section
variable {P : Program} {w : World} {K : PySem.W.Frag} {mg : PySem.Str → Option Value} {base : Heap} {σ : L2.St} {H H' : Hp} {ta tb tc te tl tk tv tx : TE} {ds es : List Dt} {d : Dt} {D : Ends} {tz : TS}
theorem ins_not {α : Type} [DecidableEq α] {row : List α} {u : α} (h : u ∉ row) : ins row u = row ++ [u] := by
  unfold ins
  rw [if_neg h]
theorem ins_in {α : Type} [DecidableEq α] {row : List α} {u : α} (h : u ∈ row) : ins row u = row := by
  unfold ins
  rw [if_pos h]
abbrev LpT (_ : Pair) : Prop := True
theorem f_Lpairs (D : DefAt K mg "_law_pairs" s_Lpairs) (B : Bi mg) : Cal P w K mg base "_law_pairs" 1 ["_law_system_here", "_law_one", "_law_other"] spLPairs := by
  refine cal_Lpairs D B (fun vs H Q E ⟨S, a, b, _, _, _, r, _⟩ => by rw [r.length]; rfl) ?_
  rintro _ H Q E ⟨S, a, b, ok, ha, hb, r, q⟩
  obtain ⟨v0, v1, v2, rfl, r0, r1, r2⟩ := r.three
  have e1 := r1.int_eq
  have e2 := r2.int_eq
  subst e1 e2
  have c3 := ok.c3
  refine q_dispT (n_tup (ns := tl2 (a, b)) (a_cons (e_var rfl r1) (a_cons (e_var rfl r2) a_nil)) (Nat.le_of_ble_eq_true rfl)) (e_tup a_nil (Nat.zero_le _)) fun v q' H1 s1 hq' rv hql => ?_
  have I1 : PI q' H [(a, b)] H1 := ⟨s1, _, hql, rfl, fun kv hkv => by
    rw [List.mem_singleton.mp hkv]
    exact ⟨[], rv, Nat.zero_le _⟩⟩
  refine q_lst1 (n_tup (ns := tl2 (a, b)) (a_cons (e_var rfl (r1.by (Kp.same s1))) (a_cons (e_var rfl (r2.by (Kp.same s1))) a_nil)) (Nat.le_of_ble_eq_true rfl)) fun v p H2 s2 hp ht hpl => ?_
  have hpb : H p = none := s1.free hp
  refine q_forR (n := 70) (a_cons (Ev.is e_int rfl) a_nil) (Nat.le_of_ble_eq_true rfl) (fun _ i σ' H' => ∃ ks x5 x6 x7, σ' = [some v0, some (.int (a : Int)), some (.int (b : Int)), some (.ref q'), some (.ref p), x5, x6, x7] ∧ PI q' H ks H' ∧ PL p ks H' ∧ Bfs S.succ2 LpT (a, b) i ks)
    (fun H3 s3 => ⟨[(a, b)], none, none, none, rfl, (I1.by s2).by s3, ⟨_, s3 _ _ hpl, .cons (ht.same s3) .nil⟩, .start⟩) (fun H3 i σ' H' s3 hi pv => ?_) (fun H3 σ' H' s3 pv => ?_)
  · obtain ⟨ks, x5, x6, x7, rfl, I, L, bf⟩ := pv
    obtain ⟨xs, b1, b2⟩ := id L
    have hl := paired_len b2
    refine s_if (t_test (e_lt (e_var rfl (.int _)) (e_lenL b1 (v_var rfl)))) (fun h H4 s4 => ?_) fun h H4 s4 => ?_
    · have hik : i < ks.length := by
        have := of_decide_eq_true h
        omega
      have ht : ks[i]? = some ks[i] := List.getElem?_eq_getElem hik
      generalize ks[i] = t at ht
      have htm : t ∈ ks := List.mem_of_getElem? ht
      have tin := ok.rch2 ha hb (bf.rch t htm)
      refine s_forR (n := S.T.length) (a_cons (e_cmds (e_var rfl (r0.by (Kp.same (I.by s4).same)))) a_nil) (by omega) (fun _ j σ' H' => ∃ ks x6 x7, σ' = [some v0, some (.int (a : Int)), some (.int (b : Int)), some (.ref q'), some (.ref p), some (.int (i : Int)), x6, x7] ∧ PI q' H ks H' ∧ PL p ks H' ∧ Bfs S.succ2 LpT (a, b) i ks ∧ ks[i]? = some t ∧
        ∀ j' < j, (S.step t.1 j', S.step t.2 j') ∈ ks) (fun H5 s5 => ⟨ks, x6, x7, rfl, (I.by s4).by s5, (L.by s4).by s5, bf, ht, fun j' h => absurd h (Nat.not_lt_zero _)⟩) (fun H5 j σ' H' s5 hj pv => ?_) (fun H5 σ' H' s5 pv => ?_)
      · obtain ⟨ks2, y6, y7, rfl, I2, L2, bf2, ht2, hdone⟩ := pv
        have q0 := r0.by (Kp.same I2.same)
        have hik2 : i < ks2.length := (List.getElem?_eq_some_iff.mp ht2).1
        have htm2 : t ∈ ks2 := List.mem_of_getElem? ht2
        have few := ok.few2 ha hb bf2.nd bf2.rch
        have nt : EvN (tOp (rIxL K) (tVar 4) (tVar 5)) [some v0, some (.int (a : Int)), some (.int (b : Int)), some (.ref q'), some (.ref p), some (.int (i : Int)), some (.int (j : Int)), y7] H' (tl2 t) := n_pl L2 (v_var rfl) (e_var rfl (.int _)) ht2
        refine q_setN (n_tup (ns := tl2 (S.step t.1 j, S.step t.2 j)) (a_cons (e_cell ok tin.1 hj (e_var rfl q0) (e_var rfl (.int _)) (e_ixC 0 nt.toD rfl)) (a_cons (e_cell ok tin.2 hj (e_var rfl q0) (e_var rfl (.int _)) (e_ixC 1 nt.toD rfl)) a_nil)) (Nat.le_of_ble_eq_true rfl)) fun uv H6 s6 t6 => ?_
        have hsucc : (S.step t.1 j, S.step t.2 j) ∈ S.succ2 t := S.succ2_mem hj
        have bf3 := bf2.ins (by omega) htm2 hsucc
        obtain ⟨bb, hbb, hiff⟩ := pi_notin (I2.by s6) (n_of (v_var (n := 7) (σ := [some v0, some (.int (a : Int)), some (.int (b : Int)), some (.ref q'), some (.ref p), some (.int (i : Int)), some (.int (j : Int)), some uv]) rfl) t6) (v_var (n := 3) rfl)
        refine s_if hbb (fun h H7 s7 => ?_) fun h H7 s7 => ?_
        · have hnu := hiff.mp h
          rw [ins_not hnu] at bf3
          refine pi_put (i := j) ((I2.by s6).by s7) ((L2.by s6).by s7) hpb hq' hnu htm2 (t6.same s7) (n_pl ((L2.by s6).by s7) (v_var rfl) (e_var rfl (.int _)) ht2) rfl rfl rfl rfl (by omega) (by omega) fun H8 k8 hoth I8 L8 => ?_
          refine ⟨_, _, _, rfl, I8, L8, bf3, ?_, fun j' hj' => ?_⟩
          · rw [List.getElem?_append_left hik2]
            exact ht2
          · by_cases e : j' = j
            · rw [e]; exact List.mem_append_right _ (List.mem_singleton.mpr rfl)
            · exact List.mem_append_left _ (hdone j' (by omega))
        · have hu : (S.step t.1 j, S.step t.2 j) ∈ ks2 := by
            by_cases z : (S.step t.1 j, S.step t.2 j) ∈ ks2
            · exact z
            · rw [hiff.mpr z] at h
              cases h
          refine ⟨_, _, _, rfl, (I2.by s6).by s7, (L2.by s6).by s7, bf2, ht2, fun j' hj' => ?_⟩
          by_cases e : j' = j
          · rw [e]; exact hu
          · exact hdone j' (by omega)
      · obtain ⟨ks2, y6, y7, rfl, I2, L2, bf2, ht2, hdone⟩ := pv
        exact ⟨ks2, _, _, _, rfl, I2, L2, bf2.turned ht2 trivial fun u hu => by
          obtain ⟨c, hc, rfl⟩ := S.succ2_of hu
          exact hdone c hc⟩
    · have hik : ks.length ≤ i := by
        have h2 : ¬ ((i : Int) < (xs.length : Int)) := of_decide_eq_false h
        omega
      exact ⟨ks, _, _, _, rfl, I.by s4, L.by s4, bf.skip hik⟩
  · obtain ⟨ks, x5, x6, x7, rfl, I, L, bf⟩ := pv
    have few := ok.few2 ha hb bf.nd bf.rch
    obtain ⟨sb, kvs, c1, c2, _⟩ := I
    exact ⟨.ref q', rfl, q q' kvs ks H' sb hq' c1 c2 ⟨bf.nd, fun z => ⟨fun h => bf.rch z h, fun h => (bf.all (by omega) h).1⟩⟩⟩

/-! ### _law_counterparts -/
theorem RA.of_nats (ns : List Nat) : RA H (ns.map fun n : Nat => V.int (n : Int)) (ns.map natD) := by
  have e : ns.map natD = (ns.map fun n : Nat => (n : Int)).map Dt.int := by rw [List.map_map]; rfl
  have e2 : (ns.map fun n : Nat => V.int (n : Int)) = (ns.map fun n : Nat => (n : Int)).map V.int := by rw [List.map_map]; rfl
  rw [e, e2]
  exact RA.of_ints _
/-- [p[1] for p in d if p[0] == x], d locked -/
theorem l_lcK {p : Addr} {kvs : List (List L2.Key × V)} {ks : List Pair} {x n0 n1 n2 : Nat} {vs : List Nat} (hp : H p = some (.dT kvs)) (hks : kvs.map (·.1) = ks.map pairK) (h0 : σ[n0]? = some (some (.ref p))) (hz : ks.length ≤ 5000)
    (hw : ∀ a, wipe ((wipe σ vs).set n1 (some a)) vs = wipe σ vs) (h1 : ∀ a, ((wipe σ vs).set n1 (some a))[n1]? = some (some a)) (h2 : ∀ a, ((wipe σ vs).set n1 (some a))[n2]? = some (some (.int (x : Int)))) :
    EvL (tLockE (tLc (iKeys (tVar n0)) (gName n1) (tTest (tOp rEq (tOp (rIxT K) (tVar n1) (tC (.int 0))) (tVar n2))) (tOp (rIxT K) (tVar n1) (tC (.int 1))) vs)) σ H ((pick ks x).map natD) := fun H0 s0 Q q => by
  have lk : kvs.length = ks.length := by
    have := congrArg List.length hks
    rw [List.length_map, List.length_map] at this
    exact this
  refine ⟨p, .dT kvs, s0 _ _ hp, trivial, fun od => ⟨.ref p, h0, p, od, rfl, .inr ⟨kvs, upd_same, fun L hL => ?_⟩⟩⟩
  refine lc_it (Walk.mono walk_keysT (fun H h => h) (fun _ _ _ _ _ _ y => y)) (fun i H' => Cw (upd H0 p (.frz od (.dT kvs))) L ((pick (ks.take i) x).map natD) H') (Cw.start hL) (fun i H' _ c => c.2.1 _ _ upd_same) (fun i v H' H4 hi c y => ?_) (fun H' c => ?_)
  · obtain ⟨rfl, k, vv, a, ek, rfl, ea⟩ := y
    have ek2 : (ks.map pairK)[i]? = some k := by
      rw [← hks, List.getElem?_map, ek]
      rfl
    rw [List.getElem?_map] at ek2
    obtain ⟨kk, hkk, rfl⟩ := Option.map_eq_some_iff.mp ek2
    have hik := (List.getElem?_eq_some_iff.mp hkk).1
    have ta : TAt H4 (.ref a) (tl2 kk) := ⟨a, rfl, ea⟩
    refine ⟨hw _, ?_⟩
    have ht : EvT (tTest (tOp rEq (tOp (rIxT K) (tVar n1) (tC (.int 0))) (tVar n2))) ((wipe σ vs).set n1 (some (.ref a))) H4 (decide ((kk.1 : Int) = (x : Int))) := t_test (e_eqI (e_ixC 0 (n_of (v_var (h1 _)) ta).toD rfl) (e_var (h2 _) (.int _)))
    refine ht H4 (Same.refl H4) _ fun H3 s3 => ?_
    by_cases e : kk.1 = x
    · rw [if_pos (decide_eq_true (by omega))]
      have t := Cw.turn (te := tOp (rIxT K) (tVar n1) (tC (.int 1))) (σ := (wipe σ vs).set n1 (some (.ref a))) (e := natD kk.2) (c.same s3) (by rw [List.length_map]; have := pick_len (ks.take i) x; rw [List.length_take] at this; omega) (e_ixC 1 (n_of (v_var (h1 _)) (ta.same s3)).toD rfl)
      rw [pick_yes hkk e, List.map_append]
      exact t
    · rw [if_neg (by rw [decide_eq_false (by omega)]; decide), pick_no hkk e]
      exact c.same s3
  · rw [lk, List.take_length] at c
    obtain ⟨ys, a1, a2, a3, a4⟩ := c.end_
    have hLp : L ≠ p := by
      intro z
      subst z
      rw [upd_same] at hL
      cases hL
    have hL0 : H0 L = none := by
      rw [upd_ne hLp] at hL
      exact hL
    have ey := a4.nats
    subst ey
    refine ⟨a1 _ _ upd_same, q L _ _ (fun b o e => ?_) hL0 (by rw [upd_ne hLp]; exact a3) (RA.of_nats _)⟩
    by_cases z : b = p
    · subst z
      rw [upd_same, ← e, s0 _ _ hp]
    · rw [upd_ne z]
      exact a1 _ _ (by rw [upd_ne z]; exact e)
theorem perm_nats {ns' : List Int} {l : List Nat} (h : ns'.Perm (l.map fun n : Nat => (n : Int))) : ∃ l' : List Nat, l'.Perm l ∧ ns' = l'.map fun n : Nat => (n : Int) := by
  refine ⟨ns'.map Int.toNat, ?_, ?_⟩
  · have h2 := h.map Int.toNat
    rw [List.map_map] at h2
    have e : l.map (Int.toNat ∘ fun n : Nat => (n : Int)) = l := by
      conv => rhs; rw [← List.map_id l]
      exact List.map_congr_left fun n _ => Int.toNat_natCast n
    rw [e] at h2
    exact h2
  · rw [List.map_map]
    conv => lhs; rw [← List.map_id ns']
    refine List.map_congr_left fun i hi => ?_
    obtain ⟨n, _, rfl⟩ := List.mem_map.mp (h.mem_iff.mp hi)
    show (n : Int) = ((Int.toNat (n : Int) : Nat) : Int)
    rw [Int.toNat_natCast]
theorem FrT.by {v : V} {row : List Nat} (k : Kp H H') (h : FrT H v row) : FrT H' v row := let ⟨a, o, e, e2, e3⟩ := h; ⟨a, o, e, k.frz _ _ _ e2, e3⟩
/-- tuple(sorted(l)), known as an object -/
theorem f_sorted {L : List Nat} (h : EvL te σ H (L.map natD)) : ∀ H1, Same H H1 → ∀ Q : VK, (∀ v row H2, Same H1 H2 → FrT H2 v row → row.Perm L → Q v H2) → tCB (rTupF K) (tCons (tCB (rSortedI K) (tCons te tNil)) tNil) σ H1 Q := fun H1 s Q q =>
  h H1 s _ fun p xs H2 s2 hn hp r => by
    have ex : xs = (L.map fun n : Nat => (n : Int)).map V.int := by rw [r.nats, List.map_map]; rfl
    refine ⟨p, _, rfl, sqL_of (by rw [hp, ex]), fun ns' p2 hperm _ hp2 => ?_⟩
    obtain ⟨row, hr, rfl⟩ := perm_nats hperm
    refine ⟨p2, _, rfl, sqL_of upd_same, fun l o hl ho1 ho2 => q (.ref l) row _ ((s2.trans (same_new hp2)).trans (same_new hl)) ⟨l, o, rfl, upd_same, ho1, ho2⟩ hr⟩
theorem f_Lcounterparts (D : DefAt K mg "_law_counterparts" s_Lcounterparts) (B : Bi mg) (C1 : Cal P w K mg base "_law_pairs" 1 ["_law_system_here", "_law_one", "_law_other"] spLPairs) :
    Cal P w K mg base "_law_counterparts" 2 ["_law_system_here", "_law_state", "_law_command"] spLCounterparts := by
  refine cal_Lcounterparts D B C1 (fun vs H Q E ⟨S, a, b, _, r, _⟩ => by rw [r.length]; rfl) ?_
  rintro _ H Q E ⟨S, x, c, ac, r, q⟩
  obtain ⟨v0, v1, v2, rfl, r0, r1, r2⟩ := r.three
  have e1 := r1.int_eq
  have e2 := r2.int_eq
  subst e1 e2
  have ok := ac.ok
  have n4 := ok.n4
  refine q_callX (a_cons (e_var rfl r0) (a_cons (e_cell ok ac.x ac.c (e_var rfl r0) (e_var rfl (.int _)) (e_var rfl (.int _))) (a_cons (e_var rfl r1) a_nil))) fun vs H1 s1 rr => ⟨S, S.step x c, x, ok, ac.a, ac.x, rr, fun p kvs ks H2 s2 hn hp hks hP => ?_⟩
  have few := ok.few2 ac.a ac.x hP.1 fun t ht => (hP.2 t).mp ht
  have S2 := s1.trans s2
  refine q_setL (l_lst a_nil (Nat.zero_le _)) fun pl xs H3 s3 hn3 hl3 r3 => ?_
  cases r3
  have hnb : H2 pl = none := hn3
  refine q_forR (n := S.n) (a_cons (e_ixC 0 (e_var rfl (r0.by (Kp.same (S2.trans s3)))) rfl) a_nil) (by omega) (fun _ i σ' H' => ∃ x5 x6 xs rows, σ' = [some v0, some (.int (x : Int)), some (.int (c : Int)), some (.ref p), some (.ref pl), x5, x6] ∧ Same H2 H' ∧ H' pl = some (.lst xs) ∧ Paired (FrT H') xs rows ∧ rows.length = i ∧
    (∀ (z : Nat) row, rows[z]? = some row → row.Perm (pick ks z))) (fun H4 s4 => ⟨none, none, [], [], rfl, s3.trans s4, s4 _ _ hl3, .nil, rfl, fun z row h => by simp at h⟩) (fun H4 i σ' H' s4 hi pv => ?_) (fun H4 σ' H' s4 pv => ?_)
  · obtain ⟨x5, x6, xs, rows, rfl, sb, hl, hr, hlen, hrow⟩ := pv
    refine ⟨.ref pl, rfl, .inl ⟨rfl, xs, sqL_of hl⟩, f_sorted (l_lcK (x := i) (sb _ _ hp) hks rfl (by omega) (fun _ => rfl) (fun _ => rfl) (fun _ => rfl)) H' (Same.refl H') _ fun v row H5 s5 fr hperm => ?_⟩
    have e5 : H5 pl = some (.lst xs) := s5 _ _ hl
    have kk : Kp H5 (upd H5 pl (.lst (xs ++ [v]))) := Kp.list e5
    refine ⟨pl, xs, v, rfl, rfl, e5, sz2 (by rw [paired_len hr]; omega), _, _, _, rows ++ [row], rfl, same_mut (sb.trans s5) hnb, upd_same, paired_snoc (fr.by kk) (paired_by (fun _ _ t => t.by ((Kp.same s5).trans kk)) hr), by rw [List.length_append, List.length_singleton, hlen], fun z row' hz => ?_⟩
    by_cases e : z < rows.length
    · rw [List.getElem?_append_left e] at hz
      exact hrow z row' hz
    · have hz' := (List.getElem?_eq_some_iff.mp hz).1
      rw [List.length_append, List.length_singleton] at hz'
      have ez : z = rows.length := by omega
      subst ez
      rw [List.getElem?_append_right (Nat.le_refl _), Nat.sub_self] at hz
      cases hz
      rw [hlen]
      exact hperm
  · obtain ⟨x5, x6, xs, rows, rfl, sb, hl, hr, hlen, hrow⟩ := pv
    refine ⟨.ref pl, rfl, q pl xs rows H' (S2.trans sb) (S2.free hnb) hl hr hlen fun z row hz => ?_⟩
    have hp := hrow z row hz
    exact ⟨hp.nodup_iff.mpr (pick_nodup hP.1 z), fun y => by rw [hp.mem_iff, mem_pick, hP.2]⟩
end
end Ub
set_option maxHeartbeats 4000000
/-! UbLw: _law_works, _law_equal, _law_stream. -/
namespace Ub
open PySem PySem.Spec PyProof.Rows L2
/-! ### a triple as data -/
def trD (t : Triple) : PyData := .tuple [.int t.1, .int t.2.1, .int t.2.2]
theorem trD_one (t : Triple) : (trD t).canLay0 = true ∧ (trD t).depth = 1 := by
  constructor
  · simp [trD, PyData.canLay0, PyData.canLayAll0]
  · simp [trD, PyData.depth, PyData.depthAll]
theorem trD_all (l : List Triple) : PyData.canLayAll0 (l.map trD) = true ∧ PyData.depthAll (l.map trD) ≤ 1 := by
  induction l with
  | nil => simp [PyData.canLayAll0, PyData.depthAll]
  | cons t l ih =>
    obtain ⟨h1, h2⟩ := trD_one t
    simp only [List.map_cons, PyData.canLayAll0, PyData.depthAll, h1, ih.1, Bool.true_and, true_and]
    have := ih.2
    omega
theorem trD_shaped (t : Triple) : SeqAt.shaped (trD t) = true := by
  obtain ⟨h1, h2⟩ := trD_one t
  unfold SeqAt.shaped
  rw [h1, h2]
  rfl
theorem trDs_shaped (l : List Triple) : SeqAt.shaped (.list (l.map trD)) = true := by
  obtain ⟨h1, h2⟩ := trD_all l
  have h3 : PyData.canLay0 (.list (l.map trD)) = true := by simp only [PyData.canLay0, h1]
  have h4 : PyData.depth (.list (l.map trD)) ≤ 64 := by simp only [PyData.depth]; omega
  unfold SeqAt.shaped
  rw [h3, decide_eq_true h4]
  rfl
theorem trD_eqv (t u : Triple) : PyData.eqv (trD t) (trD u) = decide (t = u) := by
  have e : PyData.eqv (trD t) (trD u) = (((t.1 : Int) == (u.1 : Int)) && (((t.2.1 : Int) == (u.2.1 : Int)) && (((t.2.2 : Int) == (u.2.2 : Int)) && true))) := by simp only [trD, PyData.eqv, PyData.eqvAll]
  rw [e]
  by_cases h : t = u
  · subst h
    simp
  · rw [decide_eq_false h]
    cases h1 : ((t.1 : Int) == (u.1 : Int)) with
    | false => rfl
    | true =>
      cases h2 : ((t.2.1 : Int) == (u.2.1 : Int)) with
      | false => rfl
      | true =>
        cases h3 : ((t.2.2 : Int) == (u.2.2 : Int)) with
        | false => rfl
        | true =>
          have g1 := eq_of_beq h1
          have g2 := eq_of_beq h2
          have g3 := eq_of_beq h3
          exact absurd (Prod.ext (by omega) (Prod.ext (by omega) (by omega))) h
section
variable {P : Program} {w : World} {K : PySem.W.Frag} {mg : PySem.Str → Option Value} {base : Heap} {σ : L2.St} {H H' : Hp} {ta tb tc te tl tk tv tx : TE} {ds es : List Dt} {d : Dt} {D : Ends} {tz : TS}
def PL3 (p : Addr) (wt : List Triple) (H' : Hp) : Prop := ∃ xs, H' p = some (.lst xs) ∧ Paired (fun v t => TAt H' v (tl3 t)) xs wt
theorem PL3.by {p : Addr} {H3 : Hp} {wt : List Triple} (w : PL3 p wt H') (s : Same H' H3) : PL3 p wt H3 := by
  obtain ⟨xs, b1, b2⟩ := w
  exact ⟨xs, s _ _ b1, paired_by (fun _ _ t => t.same s) b2⟩
theorem n_pl3 {p : Addr} {wt : List Triple} {i : Nat} {t : Triple} (w : PL3 p wt H) (hl : EvV tl σ H (.ref p)) (hi : Ev tx σ H (.int (i : Int))) (ht : wt[i]? = some t) : EvN (tOp (rIxL K) tl tx) σ H (tl3 t) := by
  obtain ⟨xs, b1, b2⟩ := w
  obtain ⟨v, h1, h2⟩ := paired_get b2 ht
  exact n_of (v_ixL b1 hl hi h1) h2
theorem dp_tr {v : V} {t : Triple} (h : TAt H v (tl3 t)) : Dp K H v (trD t) := by
  obtain ⟨a, rfl, e⟩ := h
  exact .tup (sqT_of (.inl e)) (.cons (.int _) (.cons (.int _) (.cons (.int _) .nil)))
theorem dp_trs : ∀ {xs : List V} {ts : List Triple}, Paired (fun v t => TAt H v (tl3 t)) xs ts → DpAll K H xs (ts.map trD)
  | _, _, .nil => .nil
  | _, _, .cons q t => .cons (dp_tr q) (dp_trs t)
/-- triple not in row -/
theorem e_notin {p : Addr} {kn : List Triple} {u : Triple} (w : PL3 p kn H) (hu : EvN ta σ H (tl3 u)) (hl : EvV tl σ H (.ref p)) : Ev (tOp (rNotInD K) ta tl) σ H (.bl (!decide (u ∈ kn))) := fun H1 s Q q =>
  hu H1 s _ fun v H2 s2 t2 => hl H2 (s.trans s2) _ fun H3 s3 => by
    obtain ⟨xs, b1, b2⟩ := w.by ((s.trans s2).trans s3)
    refine ⟨trD u, kn.map trD, dp_tr (t2.same s3), .lst (sqL_of b1) (dp_trs b2), trD_shaped u, trDs_shaped kn, ?_⟩
    have e : ((kn.map trD).any fun z => PyData.eqv z (trD u)) = decide (u ∈ kn) := by
      rw [List.any_map]
      by_cases h : u ∈ kn
      · rw [decide_eq_true h]
        exact List.any_eq_true.mpr ⟨u, h, by show PyData.eqv (trD u) (trD u) = true; rw [trD_eqv]; exact decide_eq_true rfl⟩
      · rw [decide_eq_false h, List.any_eq_false]
        intro z hz
        show ¬ PyData.eqv (trD z) (trD u) = true
        rw [trD_eqv, decide_eq_true_eq]
        intro e
        exact h (e ▸ hz)
    rw [e]
    exact q _ H3 (s2.trans s3) (.bl _)
/-- row.append(triple) -/
theorem pl3_app {p : Addr} {Hb : Hp} {kn : List Triple} {u : Triple} {uv : V} {n1 n2 : Nat} (sb : Same Hb H) (hp : Hb p = none) (w : PL3 p kn H) (ht : TAt H uv (tl3 u)) (h1 : σ[n1]? = some (some (.ref p))) (h2 : σ[n2]? = some (some uv)) (hz : kn.length ≤ 5000)
    (k : ∀ H1, Same Hb H1 → PL3 p (kn ++ [u]) H1 → D.nx σ H1) : tDrop (tBM K "list" rAppend (tVar n1) (tCons (tVar n2) tNil)) D σ H := by
  obtain ⟨xs, b1, b2⟩ := w
  have kk : Kp H (upd H p (.lst (xs ++ [uv]))) := Kp.list b1
  exact ⟨.ref p, h1, .inl ⟨rfl, xs, sqL_of b1⟩, uv, h2, p, xs, uv, rfl, rfl, b1, sz2 (by rw [paired_len b2]; omega), k _ (same_mut sb hp) ⟨_, upd_same, paired_snoc (F := fun v t => TAt (upd H p (.lst (xs ++ [uv]))) v (tl3 t)) (ht.by kk) (paired_by (fun _ _ t => t.by kk) b2)⟩⟩
theorem f_Lworks (D : DefAt K mg "_law_works" s_Lworks) (B : Bi mg) : Cal P w K mg base "_law_works" 1 ["_law_system_here", "_law_state", "_law_command", "_law_rule"] spLWorks := by
  refine cal_Lworks D B (len_spP fun ds P ⟨S, x, c, r, m, _, _, e, _⟩ => by rw [e]; rfl) ?_
  rintro _ H Q E ⟨ds, P, r, ⟨S, x, c, ru, m, ac, o, rfl, hP⟩, q⟩
  obtain ⟨v0, v1, v2, v3, rfl, r0, r1, r2, r3⟩ := r.four
  have hq : ∀ b v H', Same H H' → R H' v (.bl b) → (b = true ↔ ru.Works S (S.step x c) x) → Q v H' := fun b v H' s r hb => q v H' _ s r (hP b hb)
  clear q hP
  have ok := ac.ok
  have c3 := ok.c3
  have e1 := r1.int_eq
  have e2 := r2.int_eq
  subst e1 e2
  refine q_lst1 (n_tup (ns := tl3 (S.step x c, x, ru.init)) (a_cons (e_cell ok ac.x ac.c (e_var rfl r0) (e_var rfl (.int _)) (e_var rfl (.int _))) (a_cons (e_var rfl (.int _)) (a_cons (e_ixC 0 (e_var rfl r3) rfl) a_nil))) (Nat.le_of_ble_eq_true rfl)) fun tv p H1 s1 hp ht hpl => ?_
  have L1 : PL3 p [(S.step x c, x, ru.init)] H1 := ⟨_, hpl, .cons ht .nil⟩
  generalize ht0 : (S.step x c, x, ru.init) = t0 at L1
  have hR : ∀ t, Rch (ru.succ S) t0 t → InB S m t := fun t h => by rw [← ht0] at h; exact o.rch ok ac.a ac.x h
  have hF : ∀ {l : List Triple}, l.Nodup → (∀ t ∈ l, Rch (ru.succ S) t0 t) → l.length ≤ 128 := fun {l} hn h => by rw [← ht0] at h; exact o.few ok ac.a ac.x hn h
  have hW : ∀ {b : Bool}, (b = true ↔ ∀ t, Rch (ru.succ S) t0 t → ru.good t) → (b = true ↔ ru.Works S (S.step x c) x) := fun {b} h => by rw [← ht0] at h; exact h
  refine q_forR (n := 600) (a_cons (Ev.is e_int rfl) a_nil) (Nat.le_of_ble_eq_true rfl) (fun _ i σ' H' => ∃ ks x5 x6 x7 x8 x9 x10, σ' = [some v0, some (.int (x : Int)), some (.int (c : Int)), some v3, some (.ref p), x5, x6, x7, x8, x9, x10] ∧ Same H H' ∧ PL3 p ks H' ∧ Bfs (ru.succ S) ru.good t0 i ks)
    (fun H3 s3 => ⟨[t0], none, none, none, none, none, none, rfl, s1.trans s3, L1.by s3, .start⟩) (fun H3 i σ' H' s3 hi pv => ?_) (fun H3 σ' H' s3 pv => ?_)
  · obtain ⟨ks, x5, x6, x7, x8, x9, x10, rfl, sb, L, bf⟩ := pv
    obtain ⟨xs, b1, b2⟩ := id L
    have hl := paired_len b2
    refine s_if (t_test (e_lt (e_var rfl (.int _)) (e_lenL b1 (v_var rfl)))) (fun h H4 s4 => ?_) fun h H4 s4 => ?_
    · have hik : i < ks.length := by
        have := of_decide_eq_true h
        omega
      have ht : ks[i]? = some ks[i] := List.getElem?_eq_getElem hik
      generalize ks[i] = t at ht
      have htm : t ∈ ks := List.mem_of_getElem? ht
      have tin : InB S m t := hR t (bf.rch t htm)
      obtain ⟨tx, ty, tz'⟩ := id tin
      have L4 := L.by s4
      refine q_unp3 (n_pl3 (i := i) L4 (v_var rfl) (e_var rfl (.int _)) ht).toD fun w1 w2 w3 H5 s5 a1 a2 a3 => ?_
      have e1 := a1.int_eq
      have e2 := a2.int_eq
      have e3 := a3.int_eq
      subst e1 e2 e3
      have S5 := (sb.trans s4).trans s5
      have q3 := r3.by (Kp.same S5)
      obtain ⟨z1, z2, z3⟩ := o.resRow tx
      have g1 : (ru.res.map rowD)[t.1]? = some (rowD (ru.res.getD t.1 [])) := by rw [List.getElem?_map, z1]; rfl
      have g2 : ((ru.res.getD t.1 []).map natD)[t.2.2]? = some (natD (ru.resAt t.1 t.2.2)) := by rw [List.getElem?_map, (o.resAt tx tz').1]; rfl
      refine q_if (t_test (e_neI (e_ixT (n := t.2.2) (e_ixT (n := t.1) (e_ixC 1 (e_var rfl q3) rfl) (e_var rfl (.int _)) g1) (e_var rfl (.int _)) g2) (e_var rfl (.int _)))) (fun h H6 s6 => ?_) fun h H6 s6 => ?_
      · refine s_ret (d := .bl false) e_bl fun v H7 s7 r7 => hq false v H7 ((S5.trans s6).trans s7) r7 (hW ⟨fun z => (nomatch z), fun z => ?_⟩)
        have hg : ru.resAt t.1 t.2.2 = t.2.1 := z t (bf.rch t htm)
        rw [hg, decide_eq_true rfl] at h
        cases h
      · have hgood : ru.good t := by
          have := of_decide_eq_true (nb h)
          show ru.resAt t.1 t.2.2 = t.2.1
          omega
        have S6 := S5.trans s6
        obtain ⟨y1, y2, y3⟩ := o.nxtA tx
        obtain ⟨u1, u2, u3⟩ := o.nxtRow tx tz'
        have g3 : (ru.nxt.map nxtD)[t.1]? = some (nxtD (ru.nxt.getD t.1 [])) := by rw [List.getElem?_map, y1]; rfl
        have g4 : ((ru.nxt.getD t.1 []).map rowD)[t.2.2]? = some (rowD (ru.nxtRow t.1 t.2.2)) := by rw [List.getElem?_map, u1]; rfl
        refine s_forR (n := S.T.length) (a_cons (e_cmds (e_var rfl (r0.by (Kp.same S6)))) a_nil) (by omega) (fun _ j σ' H' => ∃ ks x9 x10, σ' = [some v0, some (.int (x : Int)), some (.int (c : Int)), some v3, some (.ref p), some (.int (i : Int)), some (.int (t.1 : Int)), some (.int (t.2.1 : Int)), some (.int (t.2.2 : Int)), x9, x10] ∧ Same H H' ∧ PL3 p ks H' ∧ Bfs (ru.succ S) ru.good t0 i ks ∧ ks[i]? = some t ∧
          ∀ j' < j, ru.one S t j' ∈ ks) (fun H7 s7 => ⟨ks, x9, x10, rfl, S6.trans s7, ((L4.by s5).by s6).by s7, bf, ht, fun j' h => absurd h (Nat.not_lt_zero _)⟩) (fun H7 j σ' H' s7 hj pv => ?_) (fun H7 σ' H' s7 pv => ?_)
        · obtain ⟨ks2, y9, y10, rfl, sb2, L2, bf2, ht2, hdone⟩ := pv
          have q0 := r0.by (Kp.same sb2)
          have q33 := r3.by (Kp.same sb2)
          have hik2 : i < ks2.length := (List.getElem?_eq_some_iff.mp ht2).1
          have htm2 : t ∈ ks2 := List.mem_of_getElem? ht2
          have few := hF bf2.nd bf2.rch
          have g5 : ((ru.nxtRow t.1 t.2.2).map natD)[j]? = some (natD (ru.nxtAt t.1 t.2.2 j)) := by rw [List.getElem?_map, (o.nxtAt tx tz' hj).1]; rfl
          refine q_setN (n_tup (ns := tl3 (ru.one S t j)) (a_cons (e_cell ok tx hj (e_var rfl q0) (e_var rfl (.int _)) (e_var rfl (.int _))) (a_cons (e_cell ok ty hj (e_var rfl q0) (e_var rfl (.int _)) (e_var rfl (.int _)))
            (a_cons (e_ixT (n := j) (e_ixT (n := t.2.2) (e_ixT (n := t.1) (e_ixC 2 (e_var rfl q33) rfl) (e_var rfl (.int _)) g3) (e_var rfl (.int _)) g4) (e_var rfl (.int _)) g5) a_nil))) (Nat.le_of_ble_eq_true rfl)) fun uv H8 s8 t8 => ?_
          have bf3 := bf2.ins (by omega) htm2 (ru.succ_mem (t := t) hj)
          refine s_if (t_test (e_notin (L2.by s8) (n_of (v_var (n := 10) (σ := [some v0, some (.int (x : Int)), some (.int (c : Int)), some v3, some (.ref p), some (.int (i : Int)), some (.int (t.1 : Int)), some (.int (t.2.1 : Int)), some (.int (t.2.2 : Int)), some (.int (j : Int)), some uv]) rfl) t8) (v_var rfl))) (fun h H9 s9 => ?_) fun h H9 s9 => ?_
          · have hnu : ru.one S t j ∉ ks2 := of_decide_eq_false (by
              cases z : decide (ru.one S t j ∈ ks2) with
              | false => rfl
              | true => rw [z] at h; cases h)
            rw [ins_not hnu] at bf3
            refine pl3_app ((sb2.trans s8).trans s9) hp ((L2.by s8).by s9) (t8.same s9) rfl rfl (by omega) fun H10 s10 L10 => ?_
            refine ⟨_, _, _, rfl, s10, L10, bf3, ?_, fun j' hj' => ?_⟩
            · rw [List.getElem?_append_left hik2]
              exact ht2
            · by_cases e : j' = j
              · rw [e]; exact List.mem_append_right _ (List.mem_singleton.mpr rfl)
              · exact List.mem_append_left _ (hdone j' (by omega))
          · have hu : ru.one S t j ∈ ks2 := of_decide_eq_true (nb h)
            refine ⟨_, _, _, rfl, (sb2.trans s8).trans s9, (L2.by s8).by s9, bf2, ht2, fun j' hj' => ?_⟩
            by_cases e : j' = j
            · rw [e]; exact hu
            · exact hdone j' (by omega)
        · obtain ⟨ks2, y9, y10, rfl, sb2, L2, bf2, ht2, hdone⟩ := pv
          exact ⟨ks2, _, _, _, _, _, _, rfl, sb2, L2, bf2.turned ht2 hgood fun u hu => by
            obtain ⟨c, hc, rfl⟩ := ru.succ_of hu
            exact hdone c hc⟩
    · have hik : ks.length ≤ i := by
        have h2 : ¬ ((i : Int) < (xs.length : Int)) := of_decide_eq_false h
        omega
      exact ⟨ks, _, _, _, _, _, _, rfl, sb.trans s4, L.by s4, bf.skip hik⟩
  · obtain ⟨ks, x5, x6, x7, x8, x9, x10, rfl, sb, L, bf⟩ := pv
    have few := hF bf.nd bf.rch
    exact s_ret (d := .bl true) e_bl fun v H4 s4 r4 => hq true v H4 (sb.trans s4) r4 (hW ⟨fun _ t ht => (bf.all (by omega) ht).2.1, fun _ => rfl⟩)
theorem f_Lequal (D : DefAt K mg "_law_equal" s_Lequal) (B : Bi mg) : Cal P w K mg base "_law_equal" 1 ["_law_actual", "_law_due"] spEqual := by
  refine cal_Lequal D B (len_spP fun ds P ⟨a, b, e, _⟩ => by rw [e]; rfl) ?_
  rintro _ H Q E ⟨ds, P, r, ⟨a, b, rfl, hP⟩, q⟩
  obtain ⟨v0, v1, rfl, r0, r1⟩ := r.two
  refine q_if (t_B (e_isN (dd := false) (e_var rfl r1) fun H v h => by rw [h.bl_eq]; rfl)) (fun h => nomatch h) fun _ H1 s1 => ?_
  refine q_if (b := true) (t_B (e_isi (e_var rfl (r1.by (Kp.same s1))) (kit_bool _))) (fun _ H2 s2 => ?_) (fun h => nomatch h)
  exact s_ret (d := .bl (a == b)) (Ev.is (e_and (a := true) (b := a == b) (e_isi (e_var rfl (r0.by (Kp.same (s1.trans s2)))) (kit_bool _)) fun _ => e_eqB (e_var rfl (r0.by (Kp.same (s1.trans s2)))) (e_var rfl (r1.by (Kp.same (s1.trans s2))))) rfl) fun v H3 s3 r3 => q v H3 _ ((s1.trans s2).trans s3) r3 hP
theorem f_Lstream (D : DefAt K mg "_law_stream" s_Lstream) (B : Bi mg) : Cal P w K mg base "_law_stream" 1 ["_law_script"] (spStream K) := by
  refine cal_Lstream D B (fun vs H Q E ⟨a, ns, e, _⟩ => by rw [e]; rfl) ?_
  rintro _ H Q E ⟨a, ns, rfl, hs, q⟩
  refine ⟨.ref a, rfl, a, _, rfl, .inl hs, fun l hl => ?_⟩
  refine ⟨by show 3 ≤ sizeLine; decide, fun p hp => q p l _ (fun b o e => ?_) ?_ ⟨0, 0, ns, upd_same, ?_, ?_, by omega, by omega⟩⟩
  · rw [upd_ne (ne_of_none (same_new hl _ _ e) hp)]
    exact same_new hl _ _ e
  · exact (same_new hl).free hp
  · rw [upd_ne (ne_of_none upd_same hp)]
    exact upd_same
  · exact ne_of_none upd_same hp
end
end Ub
set_option maxHeartbeats 4000000
/-! UbSt: what a stream of draws keeps; _law_next. -/
namespace Ub
open PySem PySem.Spec PyProof.Rows L2
/-! ### what is kept -/
structure SS (s l : Addr) (H H' : Hp) : Prop where
  str0 : Strm s l H
  same : SameS s H H'
  str : Strm s l H'
theorem Strm.by {s l : Addr} {H H' : Hp} (h : Strm s l H) (e : Same H H') : Strm s l H' := let ⟨c, k, ns, h1, h2, h3⟩ := h; ⟨c, k, ns, e _ _ h1, e _ _ h2, h3⟩
theorem Strm.at {s l : Addr} {H : Hp} (h : Strm s l H) : ∃ xs, H s = some (.lst xs) := let ⟨_, _, _, h1, _⟩ := h; ⟨_, h1⟩
section
variable {s l p : Addr} {H H0 H1 H2 H' : Hp}
theorem SS.refl (h : Strm s l H) : SS s l H H := ⟨h, fun _ _ _ e => e, h⟩
theorem SS.of (h : Strm s l H) (e : Same H H1) : SS s l H H1 := ⟨h, fun b o _ x => e b o x, h.by e⟩
theorem SS.trans (a : SS s l H H1) (b : SS s l H1 H2) : SS s l H H2 := ⟨a.str0, fun x o n e => b.same x o n (a.same x o n e), b.str⟩
theorem SS.then (a : SS s l H H1) (e : Same H1 H2) : SS s l H H2 := a.trans (SS.of a.str e)
theorem SS.kp (a : SS s l H H') : Kp H H' := by
  obtain ⟨xs, hx⟩ := a.str0.at
  obtain ⟨ys, hy⟩ := a.str.at
  refine ⟨fun b zs e => a.same _ _ (fun z => ?_) e, fun b o u e => a.same _ _ (fun z => ?_) e, fun b zs e => ?_⟩
  · subst z; rw [hx] at e; cases e
  · subst z; rw [hx] at e; cases e
  · by_cases z : b = s
    · subst z; exact ⟨ys, hy⟩
    · exact ⟨zs, a.same _ _ z e⟩
/-- what is new is not the stream -/
theorem Strm.ne (h : Strm s l H) (hp : H p = none) : p ≠ s ∧ p ≠ l := by
  obtain ⟨c, k, ns, h1, h2, _⟩ := h
  refine ⟨fun z => ?_, fun z => ?_⟩
  · subst z
    rw [hp] at h1
    cases h1
  · subst z
    rw [hp] at h2
    cases h2
theorem SS.free (a : SS s l H H1) (hp : H1 p = none) : H p = none := by
  have hne := (a.str.ne hp).1
  cases h : H p with
  | none => rfl
  | some o =>
    have := a.same _ _ hne h
    rw [hp] at this
    cases this
theorem Strm.upd {o : HO} (h : Strm s l H) (h1 : p ≠ s) (h2 : p ≠ l) : Strm s l (upd H p o) := by
  obtain ⟨c, k, ns, a, b, d⟩ := h
  exact ⟨c, k, ns, by rw [upd_ne (Ne.symm h1)]; exact a, by rw [upd_ne (Ne.symm h2)]; exact b, d⟩
/-- a thing that is new since H is written -/
theorem SS.mut {o : HO} (a : SS s l H H1) (hp : H p = none) : SS s l H (upd H1 p o) := by
  obtain ⟨n1, n2⟩ := a.str0.ne hp
  exact ⟨a.str0, fun b x nb e => by rw [upd_ne (ne_of_none e hp)]; exact a.same b x nb e, a.str.upd n1 n2⟩
theorem SS.ref (a : SS s l H H1) {xs : List V} (hp : H p = some (.lst xs)) (hn : p ≠ s) : H1 p = some (.lst xs) := a.same _ _ hn hp
end

/-! ### what evaluates with draws -/
section
variable {s l : Addr} {P : Program} {w : World} {K : PySem.W.Frag} {mg : PySem.Str → Option Value} {base : Heap} {σ : L2.St} {H H' : Hp} {ta tr tb tc te tl tk tv tx : TE} {ds es : List Dt} {d : Dt} {D : Ends} {tz : TS} {Pd Qd : Dt → Prop}
def EvD (s l : Addr) (te : TE) (σ : L2.St) (H : Hp) (Pd : Dt → Prop) : Prop := ∀ H1, SS s l H H1 → ∀ Q : VK, (∀ v H2 d, SS s l H1 H2 → R H2 v d → Pd d → Q v H2) → te σ H1 Q
def EvDA (s l : Addr) (ta : TA) (σ : L2.St) (H : Hp) (Pl : List Dt → Prop) : Prop := ∀ H1, SS s l H H1 → ∀ Q : List V → Hp → Prop, (∀ vs H2 ds, SS s l H1 H2 → RA H2 vs ds → Pl ds → Q vs H2) → ta σ H1 Q
def EvDL (s l : Addr) (te : TE) (σ : L2.St) (H : Hp) (Pl : List Dt → Prop) : Prop := ∀ H1, SS s l H H1 → ∀ Q : VK, (∀ p xs H2 ds, SS s l H1 H2 → H1 p = none → H2 p = some (.lst xs) → RA H2 xs ds → Pl ds → Q (.ref p) H2) → te σ H1 Q
theorem EvD.mono {Qd : Dt → Prop} (h : EvD s l te σ H Pd) (k : ∀ d, Pd d → Qd d) : EvD s l te σ H Qd := fun H1 a Q q => h H1 a Q fun v H2 d a2 r p => q v H2 d a2 r (k d p)
theorem EvDA.mono {t : TA} {Pl Ql : List Dt → Prop} (h : EvDA s l t σ H Pl) (k : ∀ d, Pl d → Ql d) : EvDA s l t σ H Ql := fun H1 a Q q => h H1 a Q fun v H2 d a2 r p => q v H2 d a2 r (k d p)
theorem EvDL.mono {Pl Ql : List Dt → Prop} (h : EvDL s l te σ H Pl) (k : ∀ d, Pl d → Ql d) : EvDL s l te σ H Ql := fun H1 a Q q => h H1 a Q fun p xs H2 ds a2 n e r p' => q p xs H2 ds a2 n e r (k ds p')
theorem d_ev (h : ∀ H1, SS s l H H1 → Ev te σ H1 d) : EvD s l te σ H (fun z => z = d) := fun H1 a Q q => h H1 a H1 (Same.refl H1) Q fun v H2 s2 r => q v H2 d (SS.of a.str s2) r rfl
theorem d_nil : EvDA s l tNil σ H (fun z => z = []) := fun H1 a Q q => q [] H1 [] (SS.refl a.str) .nil rfl
theorem d_cons {t : TA} {Pl : List Dt → Prop} (h : EvD s l te σ H Pd) (hr : EvDA s l t σ H Pl) : EvDA s l (tCons te t) σ H (fun z => ∃ d ds, z = d :: ds ∧ Pd d ∧ Pl ds) := fun H1 a Q q =>
  h H1 a _ fun v H2 d a2 r2 p2 => hr H2 (a.trans a2) _ fun vs H3 ds a3 r3 p3 => q _ H3 _ (a2.trans a3) (.cons (r2.by a3.kp) r3) ⟨d, ds, rfl, p2, p3⟩
theorem d_tup {t : TA} {Pl : List Dt → Prop} (h : EvDA s l t σ H Pl) (hl : ∀ ds, Pl ds → ds.length ≤ 5000) : EvD s l (tTup t) σ H (fun z => ∃ ds, z = .tup ds ∧ Pl ds) := fun H1 a Q q =>
  h H1 a _ fun vs H2 ds a2 r2 p2 => ⟨sz1 (by rw [r2.length]; exact hl _ p2), fun p hp => q _ _ _ (a2.then (same_new hp)) (.tup (.inl upd_same) (r2.by (Kp.new hp))) ⟨ds, rfl, p2⟩⟩
theorem d_call {pp : Pp} {t : TA} {E : XK} {Pl : List Dt → Prop} (h : EvDA s l t σ H Pl) (hp : ∀ ds, Pl ds → pp ds Pd) : EvD s l (tCall (spP pp) [] E t) σ H Pd := fun H1 a Q q =>
  h H1 a _ fun vs H2 ds a2 r2 p2 => ⟨ds, _, by rw [List.append_nil]; exact r2, hp ds p2, fun v H3 d' s3 r3 e => q v H3 d' (a2.then s3) r3 e⟩
theorem d_next {n m : Nat} (h0 : σ[n]? = some (some (.ref s))) (h : EvD s l te σ H (fun z => z = natD m)) (h1 : 1 ≤ m) (h2 : m ≤ 1000) : EvD s l (tCall spNext [] E0 (tCons (tVar n) (tCons te tNil))) σ H (fun z => ∃ d, d < m ∧ z = natD d) := fun H1 a Q q =>
  ⟨.ref s, h0, h H1 a _ fun v H2 d a2 r2 e => by
    subst e
    have ev := r2.int_eq
    subst ev
    exact ⟨s, l, m, rfl, a2.str, h1, h2, fun d H3 hd s3 st3 => q _ H3 (natD d) (a2.trans ⟨a2.str, s3, st3⟩) (.int _) ⟨d, hd, rfl⟩⟩⟩
theorem d_add1 {m : Nat} (h : EvD s l te σ H (fun z => ∃ d, d < m ∧ z = natD d)) : EvD s l (tOp rAddI (tC (.int 1)) te) σ H (fun z => ∃ d, 1 ≤ d ∧ d ≤ m ∧ z = natD d) := fun H1 a Q q =>
  h H1 a _ fun v H2 d a2 r2 ⟨k, hk, e⟩ => by
    subst e
    have ev := r2.int_eq
    subst ev
    refine ⟨1, k, rfl, rfl, q _ H2 (natD (1 + k)) a2 ?_ ⟨1 + k, by omega, by omega, rfl⟩⟩
    have e : (1 : Int) + (k : Int) = ((1 + k : Nat) : Int) := by omega
    show R H2 (V.int ((1 : Int) + (k : Int))) (natD (1 + k))
    rw [e]
    exact .int _
theorem d_tupL {Pl : List Dt → Prop} (h : EvDL s l te σ H Pl) : EvD s l (tCB (rTupOf K) (tCons te tNil)) σ H (fun z => ∃ ds, z = .tup ds ∧ Pl ds) := fun H1 a Q q =>
  h H1 a _ fun p xs H2 ds a2 hn hp r p2 => ⟨p, xs, rfl, .inl ⟨sqL_of hp, fun z hz => q _ _ _ (a2.then (same_new hz)) (.tup (.inl upd_same) (r.by (Kp.new hz))) ⟨ds, rfl, p2⟩⟩⟩
/-- x = e -/
theorem q_setD {n : Nat} (hs : Strm s l H) (h : EvD s l te σ H Pd) (q : ∀ v H1 d, SS s l H H1 → R H1 v d → Pd d → tz D (σ.set n (some v)) H1) : tSeq (tAsg te (gName n)) tz D σ H := h H (SS.refl hs) _ q
theorem s_retD (hs : Strm s l H) (h : EvD s l te σ H Pd) (q : ∀ v H1 d, SS s l H H1 → R H1 v d → Pd d → D.rt v H1) : tRet te D σ H := h H (SS.refl hs) _ q
/-- the new list at L within a comprehension with draws -/
def CwD (s l : Addr) (Pd : Dt → Prop) (H : Hp) (L : Addr) (i : Nat) (H' : Hp) : Prop := H L = none ∧ SS s l H H' ∧ ∃ acc ds, H' L = some (.lst acc) ∧ RA H' acc ds ∧ ds.length = i ∧ ∀ d ∈ ds, Pd d
theorem CwD.start {L : Addr} (hs : Strm s l H) (h : H L = none) : CwD s l Pd H L 0 (upd H L (.lst [])) := ⟨h, SS.of hs (same_new h), [], [], upd_same, .nil, rfl, fun d h => nomatch h⟩
theorem CwD.turn {L : Addr} {i : Nat} (c : CwD s l Pd H L i H') (hz : i ≤ 5000) (he : EvD s l te σ H' Pd) : te σ H' fun y H4 => ∃ acc, H4 L = some (.lst acc) ∧ acc.length < sizeLine ∧ CwD s l Pd H L (i + 1) (upd H4 L (.lst (acc ++ [y]))) := by
  obtain ⟨h0, a, acc, ds, hL, hr, hlen, hall⟩ := c
  refine he H' (SS.refl a.str) _ fun v H4 d a4 r4 pd => ⟨acc, a4.ref hL (a.str0.ne h0).1, sz2 (by rw [hr.length]; omega), h0, (a.trans a4).mut h0, acc ++ [v], ds ++ [d], upd_same, ?_, by rw [List.length_append, List.length_singleton, hlen], fun z hz => ?_⟩
  · have k := a4.kp.trans (Kp.list (ys := acc ++ [v]) (a4.ref hL (a.str0.ne h0).1))
    exact (hr.by k).snoc (r4.by (Kp.list (a4.ref hL (a.str0.ne h0).1)))
  · rcases List.mem_append.mp hz with hz | hz
    · exact hall z hz
    · rw [List.mem_singleton.mp hz]
      exact pd
/-- [e for x in range(n)] -/
theorem d_lcR {n j : Nat} {t : TA} {vs : List Nat} (h : ∀ H1, SS s l H H1 → EvA t σ H1 [natD n]) (hn : n ≤ 5000) (hw : ∀ x, wipe ((wipe σ vs).set j (some x)) vs = wipe σ vs)
    (he : ∀ (i : Nat) H1, SS s l H H1 → i < n → EvD s l te ((wipe σ vs).set j (some (.int (i : Int)))) H1 Pd) : EvDL s l (tLc (iRng1 t) (gName j) tYes te vs) σ H (fun ds => ds.length = n ∧ ∀ d ∈ ds, Pd d) := fun H0 a0 Q q =>
  h H0 a0 H0 (Same.refl H0) _ fun xs H1 s1 r1 => by
    obtain ⟨v, rfl, rv⟩ := r1.one
    have ev := rv.int_eq
    subst ev
    refine ⟨(n : Int), rfl, by omega, by omega, fun L hL => ?_⟩
    have en : ((n : Int)).toNat = n := by omega
    rw [en]
    have a1 := a0.then s1
    refine lc_range (fun i H' => CwD s l Pd H1 L i H') (CwD.start a1.str hL) (fun i H' hi c => ?_) (fun H' c => ?_)
    · have e0 : (0 : Int) + (i : Int) = (i : Int) := Int.zero_add _
      rw [e0]
      refine ⟨hw _, ?_⟩
      have t := CwD.turn (σ := (wipe σ vs).set j (some (.int (i : Int)))) c (by omega) (he i H' (a1.trans c.2.1) hi)
      exact t
    · obtain ⟨h0, a, acc, ds, hL', hr, hlen, hall⟩ := c
      exact q L acc H' ds ((SS.of a0.str s1).trans a) (s1.free h0) hL' hr ⟨hlen, hall⟩
/-- [e for x in t] -/
theorem d_lcT {j : Nat} {tl : TE} {vs : List Nat} (h : ∀ H1, SS s l H H1 → Ev tl σ H1 (.tup ds)) (hn : ds.length ≤ 5000) (hw : ∀ x, wipe ((wipe σ vs).set j (some x)) vs = wipe σ vs)
    (he : ∀ (i : Nat) v H1, SS s l H H1 → EvD s l te ((wipe σ vs).set j (some v)) H1 Pd) : EvDL s l (tLc (iTup K tl) (gName j) tYes te vs) σ H (fun es => es.length = ds.length ∧ ∀ d ∈ es, Pd d) := fun H0 a0 Q q =>
  h H0 a0 H0 (Same.refl H0) _ fun v H1 s1 r1 => by
    obtain ⟨p, xs, rfl, h1, h2⟩ := r1.tup_at
    have a1 := a0.then s1
    refine ⟨p, rfl, ⟨xs, sqT_of h1⟩, fun L hL => ?_⟩
    refine lc_tup (xs := xs) (fun i H' => CwD s l Pd H1 L i H') (CwD.start a1.str hL) (fun i H' _ c => sqT_of (rd_kp c.2.1.kp h1)) (fun i x H' hx c => ?_) (fun H' c => ?_)
    · refine ⟨hw _, ?_⟩
      have hi := (List.getElem?_eq_some_iff.mp hx).1
      have hl := h2.length
      have t := CwD.turn (σ := (wipe σ vs).set j (some x)) c (by omega) (he i x H' (a1.trans c.2.1))
      exact t
    · obtain ⟨h0, a, acc, es, hL', hr, hlen, hall⟩ := c
      exact q L acc H' es ((SS.of a0.str s1).trans a) (s1.free h0) hL' hr ⟨by rw [hlen, h2.length], hall⟩

/-! ### _law_next -/
theorem e_mul {i j : Int} (ha : Ev ta σ H (.int i)) (hb : Ev tb σ H (.int j)) (hc : CMul i j) : Ev (tOp rMulI ta tb) σ H (.int (i * j)) := e_i (f := fun i j => .int (i * j)) (fun _ => .int _) ha hb hc
theorem e_mod {i j : Int} (ha : Ev ta σ H (.int i)) (hb : Ev tb σ H (.int j)) (hc : j ≠ 0) : Ev (tOp rModI ta tb) σ H (.int (i.fmod j)) := e_i (C := fun _ j => j ≠ 0) (f := fun i j => .int (i.fmod j)) (fun _ => .int _) ha hb hc
theorem e_div {i j : Int} (ha : Ev ta σ H (.int i)) (hb : Ev tb σ H (.int j)) (hc : CDivN i j) : Ev (tOp rDivI ta tb) σ H (.int (i.fdiv j)) := e_i (f := fun i j => .int (i.fdiv j)) (fun _ => .int _) ha hb hc
theorem e_pow {i j : Int} (ha : Ev ta σ H (.int i)) (hb : Ev tb σ H (.int j)) (hc : CPow i j) : Ev (tOp rPowI ta tb) σ H (.int (i ^ j.toNat)) := e_i (f := fun i j => .int (i ^ j.toNat)) (fun _ => .int _) ha hb hc
theorem e_toI {i : Int} (ha : Ev ta σ H (.int i)) : Ev (tCB rInt (tCons ta tNil)) σ H (.int i) := fun H1 s Q q => ha H1 s _ fun v H2 s2 r2 => .inl ⟨i, by rw [r2.int_eq], q _ H2 s2 (.int _)⟩
theorem e_abs {i : Int} (ha : Ev ta σ H (.int i)) : Ev (tCB rAbs (tCons ta tNil)) σ H (.int (if i < 0 then -i else i)) := fun H1 s Q q => ha H1 s _ fun v H2 s2 r2 => ⟨i, by rw [r2.int_eq], q _ H2 s2 (.int _)⟩
theorem sameS_of {s : Addr} {H H' : Hp} (h : Same H H') : SameS s H H' := fun b o _ e => h b o e
theorem sameS_trans {s : Addr} {H H1 H2 : Hp} (a : SameS s H H1) (b : SameS s H1 H2) : SameS s H H2 := fun x o n e => b x o n (a x o n e)
/-- here[j] = e -/
theorem s_sub {xs : List V} {i jj : Int} {n j : Nat} (hs : H s = some (.lst xs)) (h : Ev te σ H (.int i)) (h0 : σ[n]? = some (some (.ref s))) (hj : ixN xs.length jj = some j) (q : ∀ H1, SameS s H H1 → H1 s = some (.lst (xs.set j (.int i))) → D.nx σ H1) :
    tAsg te (gSub (tVar n) (tC (.int jj)) rSetL) D σ H := h H (Same.refl H) _ fun v H1 s1 r1 => by
  have ev := r1.int_eq
  subst ev
  exact ⟨.ref s, h0, s, xs, jj, j, rfl, rfl, s1 _ _ hs, hj, q _ (fun b o nb e => by rw [upd_ne nb]; exact s1 _ _ e) upd_same⟩
theorem f_Lnext (D : DefAt K mg "_law_next" s_Lnext) (B : Bi mg) : Cal P w K mg base "_law_next" 1 ["_law_stream_here", "_law_many"] spNext := by
  refine cal_Lnext D B (fun vs H Q E ⟨s, l, m, e, _⟩ => by rw [e]; rfl) ?_
  rintro _ H Q E ⟨s, l, m, rfl, ⟨c, k, ns, hs, hl, hne, hc, hk⟩, m1, m2, q⟩
  -- the digit
  have rest : ∀ H' x2 x3 x4 (c' k' : Int), SameS s H H' → H' s = some (.lst [.ref l, .int c', .int k']) → 0 ≤ c' → 0 ≤ k' →
      tSeq (tAsg (tOp rModI (tCB rInt (tCons (tOp (rIxL K) (tVar 0) (tC (.int 1))) tNil)) (tVar 1)) (gName 4)) (tSeq (tAsg (tOp rDivI (tOp (rIxL K) (tVar 0) (tC (.int 1))) (tVar 1)) (gSub (tVar 0) (tC (.int 1)) rSetL)) (tRet (tVar 4)))
        { nx := fun _ H' => Q .non H', rt := Q } [some (.ref s), some (.int (m : Int)), x2, x3, x4] H' := by
    intro H' x2 x3 x4 c' k' sh hs' hc' hk'
    have hl' := sh _ _ hne hl
    have hr : ∀ H3 : Hp, H3 l = some (.lst (ns.map V.int)) → RA H3 [.ref l, .int c', .int k'] [.lst, .int c', .int k'] := fun H3 h => .cons (.lst h) (.cons (.int _) (.cons (.int _) .nil))
    refine q_set (e_mod (e_toI (e_ixL (n := 1) hs' (hr H' hl') (v_var rfl) (Ev.is e_int rfl) rfl)) (e_var rfl (.int _)) (by omega)) fun v H1 s1 r1 => ?_
    have ev := r1.int_eq
    subst ev
    refine s_sub (s := s) (s1 _ _ hs') (e_div (e_ixL (n := 1) (s1 _ _ hs') (hr H1 (s1 _ _ hl')) (v_var rfl) (Ev.is e_int rfl) rfl) (e_var rfl (.int _)) ⟨by omega, by omega⟩) rfl (j := 1) rfl fun H2 s2 hs2 => ?_
    have d0 : 0 ≤ c'.fmod (m : Int) := Int.fmod_nonneg_of_pos _ (by omega)
    have d1 : c'.fmod (m : Int) < (m : Int) := Int.fmod_lt_of_pos _ (by omega)
    have ed : c'.fmod (m : Int) = ((c'.fmod (m : Int)).toNat : Int) := by omega
    refine ⟨.int (c'.fmod (m : Int)), rfl, ?_⟩
    rw [ed]
    have sh2 := sameS_trans (sameS_trans sh (sameS_of s1)) s2
    exact q _ H2 (by omega) sh2 ⟨c'.fdiv (m : Int), k', ns, hs2, sh2 _ _ hne hl, hne, Int.fdiv_nonneg hc' (by omega), hk'⟩
  have hr : ∀ H3 : Hp, H3 l = some (.lst (ns.map V.int)) → RA H3 [.ref l, .int c, .int k] [.lst, .int c, .int k] := fun H3 h => .cons (.lst h) (.cons (.int _) (.cons (.int _) .nil))
  refine q_if (t_test (e_eqI (e_ixL (n := 1) hs (hr H hl) (v_var rfl) (Ev.is e_int rfl) rfl) e_int)) (fun _ H1 s1 => ?_) fun _ H1 s1 => ?_
  · -- a new cell
    refine q_set (e_ixL (n := 2) (s1 _ _ hs) (hr H1 (s1 _ _ hl)) (v_var rfl) (Ev.is e_int rfl) rfl) fun v H2 s2 r2 => ?_
    have ev := r2.int_eq
    subst ev
    refine q_set (e_add e_int (e_var rfl (.int _))) fun v H3 s3 r3 => ?_
    have ev := r3.int_eq
    subst ev
    have S3 := (s1.trans s2).trans s3
    -- from the cell on
    have fin : ∀ H' (cell : Int), Same H H' → 0 ≤ cell →
        tSeq (tAsg (tVar 3) (gSub (tVar 0) (tC (.int 1)) rSetL)) (tAsg (tOp rAddI (tVar 2) (tC (.int 1))) (gSub (tVar 0) (tC (.int 2)) rSetL))
          { nx := tSeq (tAsg (tOp rModI (tCB rInt (tCons (tOp (rIxL K) (tVar 0) (tC (.int 1))) tNil)) (tVar 1)) (gName 4)) (tSeq (tAsg (tOp rDivI (tOp (rIxL K) (tVar 0) (tC (.int 1))) (tVar 1)) (gSub (tVar 0) (tC (.int 1)) rSetL)) (tRet (tVar 4))) { nx := fun _ H' => Q .non H', rt := Q }, rt := Q }
          [some (.ref s), some (.int (m : Int)), some (.int k), some (.int cell), none] H' := by
      intro H' cell sh h0
      refine s_sub (s := s) (sh _ _ hs) (e_var rfl (.int _)) rfl (j := 1) rfl fun H4 s4 hs4 => ?_
      refine s_sub (s := s) hs4 (e_add (e_var rfl (.int _)) e_int) rfl (j := 2) rfl fun H5 s5 hs5 => ?_
      exact rest H5 _ _ _ cell (k + 1) (sameS_trans (sameS_trans (sameS_of sh) s4) s5) hs5 h0 (by omega)
    have mid : ∀ H' (cell : Int), Same H H' → 0 ≤ cell →
        tSeq (tIfS (tTest (tOp rLtI (tVar 3) (tOp rPowI (tC (.int 10)) (tC (.int 18))))) (tSeq (tAsg (tOp rModI (tCB rInt (tCons (tOp rAddI (tOp rAddI (tOp rMulI (tVar 3) (tC (.int 48271))) (tOp rMulI (tVar 2) (tC (.int 69621)))) (tC (.int 11))) tNil)) (tC (.int 2147483647))) (gName 3))
  (tAsg (tOp rAddI (tOp rMulI (tOp rModI (tCB rInt (tCons (tOp rAddI (tOp rMulI (tVar 3) (tC (.int 16807))) (tC (.int 13))) tNil)) (tC (.int 2147483647))) (tC (.int 65537))) (tVar 3)) (gName 3))) tNext)
        (tSeq (tAsg (tVar 3) (gSub (tVar 0) (tC (.int 1)) rSetL)) (tAsg (tOp rAddI (tVar 2) (tC (.int 1))) (gSub (tVar 0) (tC (.int 2)) rSetL)))
          { nx := tSeq (tAsg (tOp rModI (tCB rInt (tCons (tOp (rIxL K) (tVar 0) (tC (.int 1))) tNil)) (tVar 1)) (gName 4)) (tSeq (tAsg (tOp rDivI (tOp (rIxL K) (tVar 0) (tC (.int 1))) (tVar 1)) (gSub (tVar 0) (tC (.int 1)) rSetL)) (tRet (tVar 4))) { nx := fun _ H' => Q .non H', rt := Q }, rt := Q }
          [some (.ref s), some (.int (m : Int)), some (.int k), some (.int cell), none] H' := by
      intro H' cell sh h0
      have cm : ∀ (i j : Int), 0 ≤ j → j < 100000 → CMul i j := fun i j h1 h2 => .inr ⟨by omega, by omega⟩
      refine q_if (t_test (e_lt (e_var rfl (.int _)) (e_pow e_int e_int ⟨by decide, by decide, by decide⟩))) (fun _ H4 s4 => ?_) fun _ H4 s4 => fin H4 cell (sh.trans s4) h0
      refine q_set (e_mod (e_toI (e_add (e_add (e_mul (e_var rfl (.int _)) e_int (cm _ _ (by decide) (by decide))) (e_mul (e_var rfl (.int _)) e_int (cm _ _ (by decide) (by decide)))) e_int)) e_int (by decide)) fun v H5 s5 r5 => ?_
      have ev := r5.int_eq
      subst ev
      have g0 : 0 ≤ (cell * 48271 + k * 69621 + 11).fmod 2147483647 := Int.fmod_nonneg_of_pos _ (by decide)
      generalize (cell * 48271 + k * 69621 + 11).fmod 2147483647 = c2 at g0
      refine s_set (e_add (e_mul (e_mod (e_toI (e_add (e_mul (e_var rfl (.int _)) e_int (cm _ _ (by decide) (by decide))) e_int)) e_int (by decide)) e_int (cm _ _ (by decide) (by decide))) (e_var rfl (.int _))) fun v H6 s6 r6 => ?_
      have ev := r6.int_eq
      subst ev
      have g1 : 0 ≤ (c2 * 16807 + 13).fmod 2147483647 := Int.fmod_nonneg_of_pos _ (by decide)
      exact fin H6 _ ((sh.trans s4).trans (s5.trans s6)) (by omega)
    have hin : EvV (tOp (rIxL K) (tVar 0) (tC (.int 0))) [some (.ref s), some (.int (m : Int)), some (.int k), some (.int (7 + k)), none] H3 (.ref l) := v_ixL (n := 0) (S3 _ _ hs) (v_var rfl) (Ev.is e_int rfl) rfl
    refine q_if (t_test (e_lt (e_var rfl (.int _)) (e_lenL (S3 _ _ hl) hin))) (fun h H4 s4 => ?_) fun h H4 s4 => ?_
    · have hkn : k < ((ns.map V.int).length : Int) := of_decide_eq_true h
      rw [List.length_map] at hkn
      obtain ⟨n, rfl⟩ : ∃ n : Nat, k = (n : Int) := ⟨k.toNat, by omega⟩
      have hn : n < ns.length := by omega
      have hn2 : (ns.map Dt.int)[n]? = some (.int ns[n]) := by rw [List.getElem?_map, List.getElem?_eq_getElem hn]; rfl
      refine s_set (e_abs (e_ixL (n := n) ((S3.trans s4) _ _ hl) (RA.of_ints ns) (hin.mono s4) (e_var rfl (.int _)) hn2)) fun v H5 s5 r5 => ?_
      have ev := r5.int_eq
      subst ev
      exact mid H5 _ ((S3.trans s4).trans s5) (by split <;> omega)
    · exact mid H4 _ (S3.trans s4) (by omega)
  · exact rest H1 _ _ _ c k (sameS_of s1) (s1 _ _ hs) hc hk
end
end Ub
set_option maxHeartbeats 4000000
/-! UbSy: _law_with, _law_system, _law_drawn_rule, _law_bent. -/
namespace Ub
open PySem PySem.Spec PyProof.Rows L2
theorem ixN_of {n j : Nat} (h : j < n) : ixN n (j : Int) = some j := by
  unfold ixN
  simp [h]
theorem erase_map {α β : Type} (f : α → β) : ∀ (l : List α) (i : Nat), (l.map f).eraseIdx i = (l.eraseIdx i).map f
  | [], _ => rfl
  | _ :: _, 0 => rfl
  | a :: l, i + 1 => by
    show f a :: (l.map f).eraseIdx i = f a :: (l.eraseIdx i).map f
    rw [erase_map f l i]
theorem map_of {α : Type} {f : α → Dt} {p : α → Prop} : ∀ {ds : List Dt}, (∀ e ∈ ds, ∃ a, p a ∧ e = f a) → ∃ l : List α, ds = l.map f ∧ ∀ a ∈ l, p a
  | [], _ => ⟨[], rfl, fun a h => nomatch h⟩
  | e :: ds, h => by
    obtain ⟨a, ha, rfl⟩ := h e List.mem_cons_self
    obtain ⟨l, rfl, hl⟩ := map_of (ds := ds) fun e he => h e (List.mem_cons_of_mem _ he)
    refine ⟨a :: l, rfl, fun b hb => ?_⟩
    rcases List.mem_cons.mp hb with rfl | hb
    · exact ha
    · exact hl b hb
section
variable {s l : Addr} {P : Program} {w : World} {K : PySem.W.Frag} {mg : PySem.Str → Option Value} {base : Heap} {σ : L2.St} {H H0 H' : Hp} {ta tr tb tc te tl tk tv tx : TE} {ds es : List Dt} {d : Dt} {D : Ends} {tz tu tw : TS} {Pd Qd : Dt → Prop}
/-! ### slices -/
theorem e_upto {i : Nat} (ha : Ev ta σ H (.tup ds)) (hb : Ev tb σ H (.int (i : Int))) (hl : i ≤ ds.length) : Ev (tSl (rSlA K) ta tNoPart (tPart tb)) σ H (.tup (ds.take i)) := fun H1 s Q q =>
  ha H1 s _ fun va H2 s2 r2 => hb H2 (s.trans s2) _ fun vb H3 s3 r3 => by
    obtain ⟨a, xs, rfl, a1, a2⟩ := (r2.by (Kp.same s3)).tup_at
    have hx := a2.length
    refine ⟨i, r3.int_eq, a, xs, rfl, sqT_of a1, fun h => ?_, fun h p hp => ?_⟩
    · have h2 := h.2
      rw [HT.sIx_nat] at h2
      have e : ds.take i = ds := List.take_of_length_le (by omega)
      rw [e] at q
      exact q _ _ (s2.trans s3) (.tup a1 a2)
    · have e : cutV xs none (some (i : Int)) = xs.take i := by
        unfold cutV
        rw [HT.sIx_nat, HT.sIx_none, List.drop_zero]
        have : min i xs.length - 0 = i := by omega
        rw [this]
      rw [e]
      exact q _ _ ((s2.trans s3).trans (same_new hp)) (.tup (.inl upd_same) ((a2.take i).by (Kp.new hp)))
theorem e_from {i : Nat} (ha : Ev ta σ H (.tup ds)) (hb : Ev tb σ H (.int (i : Int))) (hl : i ≤ ds.length) : Ev (tSl (rSlA K) ta (tPart tb) tNoPart) σ H (.tup (ds.drop i)) := fun H1 s Q q =>
  ha H1 s _ fun va H2 s2 r2 => hb H2 (s.trans s2) _ fun vb H3 s3 r3 => by
    obtain ⟨a, xs, rfl, a1, a2⟩ := (r2.by (Kp.same s3)).tup_at
    have hx := a2.length
    refine ⟨i, r3.int_eq, a, xs, rfl, sqT_of a1, fun h => ?_, fun h p hp => ?_⟩
    · have h2 := h.1
      rw [HT.sIx_nat] at h2
      have e : ds.drop i = ds := by
        by_cases z : i = 0
        · rw [z]; rfl
        · have : ds = [] := List.eq_nil_of_length_eq_zero (by omega)
          rw [this, List.drop_nil]
      rw [e] at q
      exact q _ _ (s2.trans s3) (.tup a1 a2)
    · have e : cutV xs (some (i : Int)) none = xs.drop i := by
        unfold cutV
        rw [HT.sIx_nat, HT.sIx_none]
        have : min i xs.length = i := by omega
        rw [this]
        exact List.take_of_length_le (by rw [List.length_drop]; exact Nat.le_refl _)
      rw [e]
      exact q _ _ ((s2.trans s3).trans (same_new hp)) (.tup (.inl upd_same) ((a2.drop i).by (Kp.new hp)))
theorem f_Lwith (D : DefAt K mg "_law_with" s_Lwith) (B : Bi mg) : Cal P w K mg base "_law_with" 1 ["_law_rows", "_law_at", "_law_row"] spWith := by
  refine cal_Lwith D B (len_spP fun ds P ⟨l, i, x, _, _, e, _⟩ => by rw [e]; rfl) ?_
  rintro _ H Q E ⟨ds, P, r, ⟨l, i, x, hi, hl, rfl, hP⟩, q⟩
  obtain ⟨v0, v1, v2, rfl, r0, r1, r2⟩ := r.three
  have e1 : l.take i ++ [x] ++ l.drop (i + 1) = l.set i x := by
    rw [List.set_eq_take_append_cons_drop, if_pos hi, List.append_assoc]
    rfl
  refine s_ret (d := .tup (l.set i x)) ?_ fun v H1 s1 r' => q v H1 _ s1 r' hP
  rw [← e1]
  refine e_cat (e_cat (e_upto (e_var rfl r0) (e_var rfl r1) (by omega)) (e_tup (a_cons (e_var rfl r2) a_nil) (Nat.le_of_ble_eq_true rfl)) ?_) (e_from (e_var rfl r0) (Ev.is (e_add (e_var rfl r1) e_int) ?_) (by omega)) ?_
  · rw [List.length_take, List.length_singleton]
    omega
  · show Dt.int ((i : Int) + 1) = Dt.int ((i + 1 : Nat) : Int)
    congr 1
  · rw [List.length_append, List.length_take, List.length_singleton, List.length_drop]
    omega

/-! ### statements with draws -/
theorem q_ifZ {m : Nat} (hs : Strm s l H) (h : EvD s l te σ H (fun z => ∃ d, d < m ∧ z = natD d)) (h1 : ∀ H1, SS s l H H1 → tu { D with nx := tz D } σ H1) (h2 : ∀ H1, SS s l H H1 → tw { D with nx := tz D } σ H1) : tSeq (tIfS (tTest (tOp rEq te (tC (.int 0)))) tu tw) tz D σ H :=
  h H (SS.refl hs) _ fun v H2 d a2 r2 ⟨k, hk, e⟩ => by
    subst e
    have ev := r2.int_eq
    subst ev
    refine ⟨rfl, ?_⟩
    by_cases z : k = 0
    · subst z
      exact ⟨true, rfl, iteT (h1 H2 a2)⟩
    · have e : decide (V.int (k : Int) = V.int 0) = false := decide_eq_false fun w => z (by have := V.int.inj w; omega)
      rw [e]
      exact ⟨false, rfl, iteF (h2 H2 a2)⟩
theorem q_forD {j lo hi : Nat} (hs : Strm s l H) (h : EvD s l te σ H (fun z => ∃ d, lo ≤ d ∧ d ≤ hi ∧ z = natD d)) (hh : hi ≤ 1000) (Pv : Nat → L2.St → Hp → Prop) (h0 : ∀ H1, SS s l H H1 → Pv 0 σ H1)
    (hb : ∀ (i : Nat) σ' H', i < hi → Pv i σ' H' → tu { D with nx := Pv (i + 1), ct := Pv (i + 1), bk := tz D } (σ'.set j (some (.int (i : Int)))) H') (hd : ∀ n σ' H', lo ≤ n → n ≤ hi → Pv n σ' H' → tz D σ' H') : tSeq (tFor (iRng1 (tCons te tNil)) (gName j) tu) tz D σ H :=
  h H (SS.refl hs) _ fun v H2 d a2 r2 ⟨k, h1, h2, e⟩ => by
    subst e
    have ev := r2.int_eq
    subst ev
    refine ⟨(k : Int), rfl, by omega, by omega, ?_⟩
    have e : ((k : Int)).toNat = k := by omega
    rw [e]
    refine for_range (lo := 0) (n := k) Pv (h0 H2 a2) (fun i σ' H' hi p => ?_) (fun σ' H' p => hd k σ' H' h1 h2 p)
    have e0 : (0 : Int) + (i : Int) = (i : Int) := Int.zero_add _
    show tu { D with nx := Pv (i + 1), ct := Pv (i + 1), bk := tz D } (σ'.set j (some (.int ((0 : Int) + (i : Int))))) H'
    rw [e0]
    exact hb i σ' H' (by omega) p
theorem s_appD {p : Addr} {xs : List V} {n : Nat} (a : SS s l H0 H) (hp0 : H0 p = none) (hp : H p = some (.lst xs)) (hr : RA H xs ds) (h0 : σ[n]? = some (some (.ref p))) (h : EvD s l te σ H Pd) (hz : xs.length ≤ 5000)
    (q : ∀ xs' H1 d, SS s l H0 H1 → Kp H H1 → H1 p = some (.lst xs') → RA H1 xs' (ds ++ [d]) → Pd d → D.nx σ H1) : tDrop (tBM K "list" rAppend (tVar n) (tCons te tNil)) D σ H :=
  ⟨.ref p, h0, .inl ⟨rfl, xs, sqL_of hp⟩, h H (SS.refl a.str) _ fun v H2 d a2 r2 pd => by
    have e2 : H2 p = some (.lst xs) := a2.ref hp (a.str0.ne hp0).1
    exact ⟨p, xs, v, rfl, rfl, e2, sz2 hz, q (xs ++ [v]) _ d ((a.trans a2).mut hp0) (a2.kp.trans (Kp.list e2)) upd_same (((hr.by a2.kp).by (Kp.list e2)).snoc (r2.by (Kp.list e2))) pd⟩⟩
/-- [left.pop(_law_next(..)) for ..] -/
theorem d_lcPop {H1 : Hp} {p : Addr} {n j n0 n3 n7 : Nat} {ls : List Nat} {vs : List Nat} {Q : VK} (a : SS s l H H1) (hp0 : H p = none) (hp : H1 p = some (.lst (ls.map fun n : Nat => V.int (n : Int)))) (hl : ls.length = n) (hls : ∀ y ∈ ls, y < n) (hn : n ≤ 100) (h3 : σ[n3]? = some (some (.int (n : Int))))
    (hw : ∀ x, wipe ((wipe σ vs).set j (some x)) vs = wipe σ vs) (h0 : ∀ x, ((wipe σ vs).set j (some x))[n0]? = some (some (.ref s))) (h7 : ∀ x, ((wipe σ vs).set j (some x))[n7]? = some (some (.ref p)))
    (q : ∀ L xs H2 ds, SS s l H H2 → H L = none → H2 L = some (.lst xs) → RA H2 xs ds → (ds.length = n ∧ ∀ d ∈ ds, ∃ y, y < n ∧ d = natD y) → Q (.ref L) H2) :
    tLc (iRng1 (tCons (tVar n3) tNil)) (gName j) tYes (tBM K "list" rPopAt (tVar n7) (tCons (tCall spNext [] E0 (tCons (tVar n0) (tCons (tCB (rLn K) (tCons (tVar n7) tNil)) tNil))) tNil)) vs σ H1 Q := by
  refine ⟨.int (n : Int), h3, (n : Int), rfl, by omega, by omega, fun L hL => ?_⟩
  have en : ((n : Int)).toNat = n := by omega
  rw [en]
  have hps := (a.str0.ne hp0).1
  have hL0 : H L = none := a.free hL
  have hLs := (a.str0.ne hL0).1
  have hLp : L ≠ p := by
    intro z
    subst z
    rw [hL] at hp
    cases hp
  refine lc_range (fun i H' => SS s l H H' ∧ (∃ acc ds, H' L = some (.lst acc) ∧ RA H' acc ds ∧ ds.length = i ∧ ∀ d ∈ ds, ∃ y, y < n ∧ d = natD y) ∧ ∃ ls : List Nat, H' p = some (.lst (ls.map fun n : Nat => V.int (n : Int))) ∧ ls.length = n - i ∧ ∀ y ∈ ls, y < n) ?_ (fun i H' hi c => ?_) (fun H' c => ?_)
  · exact ⟨a.mut hL0, ⟨[], [], upd_same, .nil, rfl, fun d h => nomatch h⟩, ls, by rw [upd_ne (Ne.symm hLp)]; exact hp, hl, hls⟩
  · obtain ⟨a1, ⟨acc, ds, hacc, hr, hlen, hall⟩, ls1, hq, hl1, hls1⟩ := c
    have e0 : (0 : Int) + (i : Int) = (i : Int) := Int.zero_add _
    rw [e0]
    refine ⟨hw _, ⟨.ref p, h7 _, .inl ⟨rfl, _, sqL_of hq⟩, d_next (m := n - i) (h0 _) (d_ev fun H2 a2 => Ev.is (e_lenL (a2.ref hq hps) (v_var (h7 _))) (by rw [List.length_map, hl1]; rfl)) (by omega) (by omega) H' (SS.refl a1.str) _ fun v H2 d a2 r2 ⟨y, hy, e⟩ => ?_⟩⟩
    subst e
    have ev := r2.int_eq
    subst ev
    have hq2 := a2.ref hq hps
    have hyl : y < ls1.length := by omega
    obtain ⟨g1, _⟩ := ixN_seq (ixN_of (n := (ls1.map fun n : Nat => V.int (n : Int)).length) (j := y) (by rw [List.length_map]; exact hyl))
    refine ⟨p, _, (y : Int), y, .int (ls1[y] : Int), rfl, rfl, hq2, by omega, by omega, g1, by rw [List.getElem?_map, List.getElem?_eq_getElem hyl]; rfl, ?_⟩
    have hacc2 := a2.ref hacc hLs
    have k2 := a2.kp.trans (Kp.list (ys := (ls1.map fun n : Nat => V.int (n : Int)).eraseIdx y) hq2)
    have a3 := (a1.trans a2).mut (o := .lst ((ls1.map fun n : Nat => V.int (n : Int)).eraseIdx y)) hp0
    have hacc3 : (upd H2 p (.lst ((ls1.map fun n : Nat => V.int (n : Int)).eraseIdx y))) L = some (.lst acc) := by rw [upd_ne hLp]; exact hacc2
    have hq3 : (upd H2 p (.lst ((ls1.map fun n : Nat => V.int (n : Int)).eraseIdx y))) p = some (.lst ((ls1.map fun n : Nat => V.int (n : Int)).eraseIdx y)) := upd_same
    have hr3 := hr.by k2
    generalize upd H2 p (.lst ((ls1.map fun n : Nat => V.int (n : Int)).eraseIdx y)) = H3 at a3 hacc3 hq3 hr3
    refine ⟨acc, hacc3, sz2 (by rw [hr.length]; omega), a3.mut hL0, ⟨_, ds ++ [natD ls1[y]], upd_same, (hr3.by (Kp.list hacc3)).snoc (.int _), by rw [List.length_append, List.length_singleton, hlen], fun d hd => ?_⟩, ls1.eraseIdx y, ?_, ?_, fun z hz => hls1 z (List.mem_of_mem_eraseIdx hz)⟩
    · rcases List.mem_append.mp hd with hd | hd
      · exact hall d hd
      · rw [List.mem_singleton.mp hd]
        exact ⟨_, hls1 _ (List.getElem_mem hyl), rfl⟩
    · rw [upd_ne (Ne.symm hLp), hq3]
      congr 2
      exact erase_map _ _ _
    · rw [List.length_eraseIdx_of_lt hyl]
      omega
  · obtain ⟨a1, ⟨acc, ds, hacc, hr, hlen, hall⟩, _⟩ := c
    exact q L acc H' ds a1 hL0 hacc hr ⟨hlen, hall⟩

theorem s_setPop {H1 : Hp} {n : Nat} {Pl : List Dt → Prop} (h : ∀ Q : VK, (∀ L xs H2 ds, SS s l H0 H2 → H0 L = none → H2 L = some (.lst xs) → RA H2 xs ds → Pl ds → Q (.ref L) H2) → te σ H1 Q)
    (k : ∀ v H2 ds, SS s l H0 H2 → R H2 v (.tup ds) → Pl ds → D.nx (σ.set n (some v)) H2) : tAsg (tCB (rTupOf K) (tCons te tNil)) (gName n) D σ H1 :=
  h _ fun L xs H2 ds a hL hl r p => ⟨L, xs, rfl, .inl ⟨sqL_of hl, fun z hz => k _ _ ds (a.then (same_new hz)) (.tup (.inl upd_same) (r.by (Kp.new hz))) p⟩⟩

/-! ### _law_system -/
/-- tables so far -/
def SyI (s l : Addr) (n : Nat) (pl : Addr) (H : Hp) (i : Nat) (σ' : L2.St) (H' : Hp) : Prop := ∃ (x5 x6 x7 x8 : Option V) (xs : List V) (ts : List (List Nat)), σ' = [some (.ref s), some (.int 4), some (.int 3), some (.int (n : Int)), some (.ref pl), x5, x6, x7, x8] ∧ SS s l H H' ∧ H' pl = some (.lst xs) ∧
  RA H' xs (ts.map rowD) ∧ ts.length = i ∧ ∀ t ∈ ts, t.length = n ∧ ∀ y ∈ t, y < n
theorem f_Lsystem (D : DefAt K mg "_law_system" s_Lsystem) (B : Bi mg) (C1 : Cal P w K mg base "_law_next" 1 ["_law_stream_here", "_law_many"] spNext) : Cal P w K mg base "_law_system" 2 ["_law_stream_here", "_law_most", "_law_commands"] spSystem := by
  refine cal_Lsystem D B C1 (fun vs H Q E ⟨s, l, e, _⟩ => by rw [e]; rfl) ?_
  rintro _ H Q E ⟨s, l, rfl, hs, q⟩
  refine q_setD hs (d_add1 (d_next (m := 4) rfl (d_ev fun H1 a => Ev.is (e_var rfl (.int _)) rfl) (by decide) (by decide))) fun v H1 d a1 r1 hd => ?_
  obtain ⟨n, n1, n4, rfl⟩ := hd
  have ev := r1.int_eq
  subst ev
  refine q_setL (l_lst a_nil (Nat.zero_le _)) fun pl xs H2 s2 hn2 hl2 r2 => ?_
  cases r2
  have a2 := a1.then s2
  have hpl : H pl = none := a1.free hn2
  refine q_forD (lo := 1) (hi := 3) a2.str (d_add1 (d_next (m := 3) rfl (d_ev fun H1 a => Ev.is (e_var rfl (.int _)) rfl) (by decide) (by decide))) (by decide) (SyI s l n pl H) (fun H3 a3 => ⟨none, none, none, none, [], [], rfl, a2.trans a3, a3.ref hl2 (a1.str.ne hn2).1, .nil, rfl, fun t h => nomatch h⟩) (fun i σ' H' hi p => ?_) (fun k σ' H' hk1 hk3 p => ?_)
  · obtain ⟨x5, x6, x7, x8, xs, ts, rfl, a3, hl3, r3, hlen, hts⟩ := p
    have fin : ∀ H4 x7 x8 v6 (t : List Nat), SS s l H' H4 → R H4 v6 (rowD t) → t.length = n → (∀ y ∈ t, y < n) → tDrop (tBM K "list" rAppend (tVar 4) (tCons (tVar 6) tNil))
        { nx := SyI s l n pl H (i + 1),
          rt := Q, bk := tRet (tTup (tCons (tVar 3) (tCons (tCall spNext [] E0 (tCons (tVar 0) (tCons (tVar 3) tNil))) (tCons (tCB (rTupOf K) (tCons (tVar 4) tNil)) tNil)))) { nx := fun _ H' => Q .non H', rt := Q },
          ct := SyI s l n pl H (i + 1) }
        [some (.ref s), some (.int 4), some (.int 3), some (.int (n : Int)), some (.ref pl), some (.int (i : Int)), some v6, x7, x8] H4 := by
      intro H4 x7 x8 v6 t a4 r4 ht hty
      refine s_appD (a3.trans a4) hpl (a4.ref hl3 (a3.str0.ne hpl).1) (r3.by a4.kp) rfl (d_ev (d := rowD t) fun H5 a5 => e_var rfl (r4.by a5.kp)) (by rw [r3.length, List.length_map]; omega) fun xs' H5 d a5 _ hl5 r5 e => ?_
      subst e
      refine ⟨_, _, _, _, xs', ts ++ [t], rfl, a5, hl5, by rw [List.map_append]; exact r5, by rw [List.length_append, List.length_singleton, hlen], fun t' ht' => ?_⟩
      rcases List.mem_append.mp ht' with h | h
      · exact hts t' h
      · rw [List.mem_singleton.mp h]
        exact ⟨ht, hty⟩
    refine q_setD a3.str (d_tupL (d_lcR (n := n) (Pd := fun z => ∃ d, d < n ∧ z = natD d) (fun H1 a => a_cons (e_var rfl (.int _)) a_nil) (by omega) (fun _ => rfl) fun i H1 a hi => d_next rfl (d_ev fun H1 a => e_var rfl (.int _)) n1 (by omega))) fun v H4 d a4 r4 hd => ?_
    obtain ⟨ds, rfl, hdl, hds⟩ := hd
    obtain ⟨t, rfl, ht⟩ := map_of hds
    rw [List.length_map] at hdl
    refine q_ifZ (m := 2) a4.str (d_next rfl (d_ev fun H1 a => Ev.is e_int rfl) (by decide) (by decide)) (fun H5 a5 => ?_) fun H5 a5 => ?_
    · -- left
      refine ⟨.int (n : Int), rfl, (n : Int), rfl, RgOk.of_le (by decide) (by omega) (by decide) (by omega), fun p hp => ?_⟩
      have erg : rgV 0 (n : Int) = (List.range n).map fun n : Nat => V.int (n : Int) := by
        unfold rgV
        have e : ((n : Int) - 0).toNat = n := by omega
        rw [e]
        refine List.map_congr_left fun i _ => ?_
        rw [Int.zero_add]
      rw [erg]
      have a45 := a4.trans a5
      have hpb : H' p = none := a45.free hp
      refine s_setPop (H0 := H') (Pl := fun ds => ds.length = n ∧ ∀ d ∈ ds, ∃ y, y < n ∧ d = natD y) (fun Q q => d_lcPop (H := H') (n := n) (a45.then (same_new hp)) hpb upd_same (List.length_range) (fun y hy => List.mem_range.mp hy) (by omega) rfl (fun _ => rfl) (fun _ => rfl) (fun _ => rfl) q) fun v' H6 ds' a6 r6 hds' => ?_
      obtain ⟨t', rfl, ht'⟩ := map_of hds'.2
      have hdl' := hds'.1
      rw [List.length_map] at hdl'
      exact fin _ _ _ _ t' a6 r6 hdl' ht'
    · exact fin H5 _ _ _ t (a4.trans a5) (r4.by a5.kp) hdl ht
  · obtain ⟨x5, x6, x7, x8, xs, ts, rfl, a3, hl3, r3, hlen, hts⟩ := p
    refine s_retD a3.str (d_tup (d_cons (d_ev (d := natD n) fun H1 a => e_var rfl (.int _)) (d_cons (d_next (m := n) rfl (d_ev fun H1 a => e_var rfl (.int _)) n1 (by omega)) (d_cons (d_ev (d := .tup (ts.map rowD)) fun H1 a => e_tupV (a.ref hl3 (a3.str0.ne hpl).1) (r3.by a.kp) (v_var rfl)) d_nil)))
      (fun ds ⟨d1, l1, e1, _, d2, l2, e2, _, d3, l3, e3, _, e4⟩ => by subst e4 e3 e2 e1; exact Nat.le_of_ble_eq_true rfl)) fun v H4 d a4 r4 hd => ?_
    obtain ⟨_, rfl, _, _, rfl, rfl, _, _, rfl, ⟨st, hst, rfl⟩, _, _, rfl, rfl, rfl⟩ := hd
    exact q v ⟨n, st, ts⟩ H4 ⟨n1, n4, hst, by show 1 ≤ ts.length; omega, by show ts.length ≤ 3; omega, hts⟩ (a3.trans a4).same a4.str r4
end
end Ub
set_option maxHeartbeats 4000000
/-! UbDr: _law_drawn_rule, _law_bent. -/
namespace Ub
open PySem PySem.Spec PyProof.Rows L2
section
variable {s l : Addr} {P : Program} {w : World} {K : PySem.W.Frag} {mg : PySem.Str → Option Value} {base : Heap} {σ : L2.St} {H H0 H' : Hp} {ta tr tb tc te tl tk tv tx : TE} {ds es : List Dt} {d : Dt} {D : Ends} {tz tu tw : TS} {Pd Qd : Dt → Prop}
/-- tuple(l), each item some f a -/
theorem d_tupM {α : Type} {f : α → Dt} {p : α → Prop} {k : Nat} (h : EvDL s l te σ H (fun ds => ds.length = k ∧ ∀ d ∈ ds, ∃ a, p a ∧ d = f a)) : EvD s l (tCB (rTupOf K) (tCons te tNil)) σ H (fun z => ∃ l : List α, (l.length = k ∧ ∀ a ∈ l, p a) ∧ z = .tup (l.map f)) :=
  (d_tupL h).mono fun z ⟨ds, e, h1, h2⟩ => by
    subst e
    obtain ⟨l, rfl, hl⟩ := map_of h2
    rw [List.length_map] at h1
    exact ⟨l, ⟨h1, hl⟩, rfl⟩
/-- nexts so far -/
def DrI (s l : Addr) (S : Sys) (m : Nat) (v vr : V) (pl : Addr) (H : Hp) (i : Nat) (σ' : L2.St) (H' : Hp) : Prop := ∃ (x5 x6 x7 : Option V) (xs : List V) (nx : List (List (List Nat))), σ' = [some (.ref s), some v, some (.int (m : Int)), some vr, some (.ref pl), x5, x6, x7] ∧ SS s l H H' ∧ H' pl = some (.lst xs) ∧
  RA H' xs (nx.map nxtD) ∧ nx.length = i ∧ ∀ a ∈ nx, a.length = m ∧ ∀ b ∈ a, b.length = S.T.length ∧ ∀ z ∈ b, z < m
theorem f_Ldrawn_rule (D : DefAt K mg "_law_drawn_rule" s_Ldrawn_rule) (B : Bi mg) (C1 : Cal P w K mg base "_law_next" 1 ["_law_stream_here", "_law_many"] spNext) : Cal P w K mg base "_law_drawn_rule" 2 ["_law_stream_here", "_law_system_here", "_law_many"] spDrawn := by
  refine cal_Ldrawn_rule D B C1 (fun vs H Q E ⟨s, l, v, S, m, e, _⟩ => by rw [e]; rfl) ?_
  rintro _ H Q E ⟨s, l, v, S, m, rfl, ok, r1, m1, m8, hs, q⟩
  have n1 := ok.n1
  have n4 := ok.n4
  have c3 := ok.c3
  refine q_setD hs (d_tupM (k := S.n) (f := rowD) (p := fun row => row.length = m ∧ ∀ y ∈ row, y < S.n) (d_lcR (n := S.n) (fun H1 a => a_cons (e_ixC 0 (e_var rfl (r1.by a.kp)) rfl) a_nil) (by omega) (fun _ => rfl) fun i H1 a hi =>
    d_tupM (k := m) (f := natD) (p := fun y => y < S.n) (d_lcR (n := m) (fun H2 a2 => a_cons (e_var rfl (.int _)) a_nil) (by omega) (fun _ => rfl) fun i2 H2 a2 hi2 => d_next rfl (d_ev fun H3 a3 => e_ixC 0 (e_var rfl (r1.by ((a.trans a2).trans a3).kp)) rfl) n1 (by omega)))) fun vr H1 d a1 rr hd => ?_
  obtain ⟨res, ⟨hrl, hres⟩, rfl⟩ := hd
  refine q_setL (l_lst a_nil (Nat.zero_le _)) fun pl xs H2 s2 hn2 hl2 r2 => ?_
  cases r2
  have a2 := a1.then s2
  have hpl : H pl = none := a1.free hn2
  refine q_forR (n := S.n) (a_cons (e_ixC 0 (e_var rfl (r1.by a2.kp)) rfl) a_nil) (by omega) (fun _ i σ' H' => DrI s l S m v vr pl H i σ' H' ∧ Kp H1 H') (fun H3 s3 => ⟨⟨none, none, none, [], [], rfl, a2.then s3, s3 _ _ hl2, .nil, rfl, fun t h => nomatch h⟩, Kp.same (s2.trans s3)⟩) (fun H3 i σ' H' s3 hi p => ?_) (fun H3 σ' H' s3 p => ?_)
  · obtain ⟨⟨x5, x6, x7, xs, nx, rfl, a4, hl4, r4, hlen, hnx⟩, kp4⟩ := p
    refine s_appD (Pd := fun z => ∃ l : List (List Nat), (l.length = m ∧ ∀ b ∈ l, b.length = S.T.length ∧ ∀ z ∈ b, z < m) ∧ z = .tup (l.map rowD)) a4 hpl hl4 r4 rfl (d_tupM (k := m) (f := rowD) (p := fun b => b.length = S.T.length ∧ ∀ z ∈ b, z < m) (d_lcR (n := m) (fun H1 a => a_cons (e_var rfl (.int _)) a_nil) (by omega) (fun _ => rfl) fun i H5 a5 hi =>
      d_tupM (k := S.T.length) (f := natD) (p := fun y => y < m) ((d_lcT (ds := S.T.map rowD) (fun H6 a6 => e_ixC 2 (e_var rfl (r1.by ((a4.trans a5).trans a6).kp)) rfl) (by rw [List.length_map]; omega) (fun _ => rfl) fun i v H6 a6 => d_next (m := m) rfl (d_ev fun H7 a7 => e_var rfl (.int _)) m1 (by omega)).mono fun es he => by rw [List.length_map] at he; exact he))) (by rw [r4.length, List.length_map]; omega) fun xs' H5 d a5 k5 hl5 r5 hd => ?_
    obtain ⟨nw, ⟨hnl, hnw⟩, rfl⟩ := hd
    refine ⟨⟨_, _, _, xs', nx ++ [nw], rfl, a5, hl5, by rw [List.map_append]; exact r5, by rw [List.length_append, List.length_singleton, hlen], fun t ht => ?_⟩, kp4.trans k5⟩
    rcases List.mem_append.mp ht with h | h
    · exact hnx t h
    · rw [List.mem_singleton.mp h]
      exact ⟨hnl, hnw⟩
  · obtain ⟨⟨x5, x6, x7, xs, nx, rfl, a4, hl4, r4, hlen, hnx⟩, kp4⟩ := p
    refine s_retD a4.str (d_tup (d_cons (d_next (m := m) rfl (d_ev fun H1 a => e_var rfl (.int _)) m1 (by omega)) (d_cons (d_ev (d := .tup (res.map rowD)) fun H5 a => e_var rfl ((rr.by kp4).by a.kp)) (d_cons (d_ev (d := .tup (nx.map nxtD)) fun H5 a => e_tupV (a.ref hl4 (a4.str0.ne hpl).1) (r4.by a.kp) (v_var rfl)) d_nil)))
      (fun ds ⟨d1, l1, e1, _, d2, l2, e2, _, d3, l3, e3, _, e4⟩ => by subst e4 e3 e2 e1; exact Nat.le_of_ble_eq_true rfl)) fun v' H5 d a5 r5 hd => ?_
    obtain ⟨_, rfl, _, _, rfl, ⟨i0, hi0, rfl⟩, _, _, rfl, rfl, _, _, rfl, rfl, rfl⟩ := hd
    exact q v' ⟨i0, res, nx⟩ H5 ⟨m1, m8, hi0, hrl, hres, hlen, hnx⟩ (a4.trans a5).same a5.str r5

/-! ### _law_bent -/
theorem mem_set {α : Type} {l : List α} {i : Nat} {a : α} {p : α → Prop} (h : ∀ x ∈ l, p x) (ha : p a) : ∀ x ∈ l.set i a, p x := fun x hx => by
  rcases List.mem_or_eq_of_mem_set hx with h1 | h1
  · exact h x h1
  · exact h1 ▸ ha
theorem d_with {α : Type} {f : α → Dt} {p : α → Prop} {rows : List α} {i : Nat} (hi : i < rows.length) (hl : rows.length ≤ 100) (h0 : EvD s l ta σ H (fun z => z = .tup (rows.map f))) (h1 : EvD s l tb σ H (fun z => z = natD i)) (h2 : EvD s l tc σ H (fun z => ∃ a, p a ∧ z = f a)) :
    EvD s l (tCall spWith [] E0 (tCons ta (tCons tb (tCons tc tNil)))) σ H (fun z => ∃ a, p a ∧ z = .tup ((rows.set i a).map f)) :=
  d_call (d_cons h0 (d_cons h1 (d_cons h2 d_nil))) fun ds ⟨d1, l1, e1, p1, d2, l2, e2, p2, d3, l3, e3, ⟨a, pa, p3⟩, e4⟩ => by
    subst e4 e3 e2 e1 p1 p2 p3
    exact ⟨_, i, f a, by rw [List.length_map]; exact hi, by rw [List.length_map]; exact hl, rfl, a, pa, by rw [List.map_set]⟩
theorem d_withR {α : Type} {f : α → Dt} {p : α → Prop} {rows : List α} {k : Nat} (hi : k ≤ rows.length) (hl : rows.length ≤ 100) (h0 : EvD s l ta σ H (fun z => z = .tup (rows.map f))) (h1 : EvD s l tb σ H (fun z => ∃ i, i < k ∧ z = natD i)) (h2 : EvD s l tc σ H (fun z => ∃ a, p a ∧ z = f a)) :
    EvD s l (tCall spWith [] E0 (tCons ta (tCons tb (tCons tc tNil)))) σ H (fun z => ∃ i a, i < k ∧ p a ∧ z = .tup ((rows.set i a).map f)) :=
  d_call (d_cons h0 (d_cons h1 (d_cons h2 d_nil))) fun ds ⟨d1, l1, e1, p1, d2, l2, e2, ⟨i, hik, p2⟩, d3, l3, e3, ⟨a, pa, p3⟩, e4⟩ => by
    subst e4 e3 e2 e1 p1 p2 p3
    exact ⟨_, i, f a, by rw [List.length_map]; omega, by rw [List.length_map]; exact hl, rfl, i, a, hik, pa, by rw [List.map_set]⟩
theorem d_three {p1 p2 p3 : Dt → Prop} (h1 : EvD s l ta σ H p1) (h2 : EvD s l tb σ H p2) (h3 : EvD s l tc σ H p3) : EvD s l (tTup (tCons ta (tCons tb (tCons tc tNil)))) σ H (fun z => ∃ a b c, z = .tup [a, b, c] ∧ p1 a ∧ p2 b ∧ p3 c) :=
  (d_tup (d_cons h1 (d_cons h2 (d_cons h3 d_nil))) (fun ds ⟨d1, l1, e1, _, d2, l2, e2, _, d3, l3, e3, _, e4⟩ => by subst e4 e3 e2 e1; exact Nat.le_of_ble_eq_true rfl)).mono
    fun z ⟨ds, e0, d1, l1, e1, q1, d2, l2, e2, q2, d3, l3, e3, q3, e4⟩ => by
      subst e4 e3 e2 e1 e0
      exact ⟨d1, d2, d3, rfl, q1, q2, q3⟩
theorem f_Lbent (D : DefAt K mg "_law_bent" s_Lbent) (B : Bi mg) (C1 : Cal P w K mg base "_law_next" 1 ["_law_stream_here", "_law_many"] spNext) (C2 : Cal P w K mg base "_law_with" 1 ["_law_rows", "_law_at", "_law_row"] spWith) : Cal P w K mg base "_law_bent" 2 ["_law_stream_here", "_law_system_here", "_law_rule"] spBent := by
  refine cal_Lbent D B C1 C2 (fun vs H Q E ⟨s, l, v, w, S, r, m, e, _⟩ => by rw [e]; rfl) ?_
  rintro _ H Q E ⟨s, l, v, w', S, ru, m, rfl, ok, r1, o, r2, hs, q⟩
  have n1 := ok.n1
  have n4 := ok.n4
  have c1 := ok.c1
  have c3 := ok.c3
  have m1 := o.m1
  have m8 := o.m8
  refine q_unp3 (e_var rfl r2) fun v3 v4 v5 H1 s1 b3 b4 b5 => ?_
  have e3 := b3.int_eq
  subst e3
  have a1 := SS.of hs s1
  have g0 : (ru.res.map rowD)[0]? = some (rowD (ru.res.getD 0 [])) := by rw [List.getElem?_map, (o.resRow (x := 0) (by omega)).1]; rfl
  refine q_set (d := natD m) (Ev.is (e_lenT (e_ixC 0 (e_var rfl b4) g0)) (by rw [List.length_map, (o.resRow (x := 0) (by omega)).2.1]; rfl)) fun v6 H2 s2 b6 => ?_
  have e6 := b6.int_eq
  subst e6
  have a2 := a1.then s2
  have ksys : ∀ {H3}, SS s l H H3 → R H3 v (sysD S) := fun a => r1.by a.kp
  refine q_setD a2.str (d_next (m := S.n) rfl (d_ev fun H3 a3 => e_ixC 0 (e_var rfl (ksys (a2.trans a3))) rfl) n1 (by omega)) fun v7 H3 d a3' b7 hd => ?_
  obtain ⟨x, hx, rfl⟩ := hd
  have e7 := b7.int_eq
  subst e7
  have a3 := a2.trans a3'
  refine q_setD a3.str (d_next (m := m) rfl (d_ev fun H4 a4 => e_var rfl (.int _)) m1 (by omega)) fun v8 H4 d a4' b8 hd => ?_
  obtain ⟨z, hz, rfl⟩ := hd
  have e8 := b8.int_eq
  subst e8
  have a4 := a3.trans a4'
  refine q_setD a4.str (d_next (m := 3) rfl (d_ev fun H5 a5 => Ev.is e_int rfl) (by decide) (by decide)) fun v9 H5 d a5' b9 hd => ?_
  obtain ⟨pk, hpk, rfl⟩ := hd
  have e9 := b9.int_eq
  subst e9
  have a5 := a4.trans a5'
  have k15 : ∀ {H6}, SS s l H5 H6 → Kp H1 H6 := fun a => (Kp.same s2).trans (((a3'.trans a4').trans a5').trans a).kp
  obtain ⟨w1, w2, w3⟩ := o.resRow hx
  obtain ⟨y1, y2, y3⟩ := o.nxtA hx
  obtain ⟨u1, u2, u3⟩ := o.nxtRow hx hz
  have g1 : (ru.res.map rowD)[x]? = some (rowD (ru.res.getD x [])) := by rw [List.getElem?_map, w1]; rfl
  have g3 : (ru.nxt.map nxtD)[x]? = some (nxtD (ru.nxt.getD x [])) := by rw [List.getElem?_map, y1]; rfl
  have g4 : ((ru.nxt.getD x []).map rowD)[z]? = some (rowD (ru.nxtRow x z)) := by rw [List.getElem?_map, u1]; rfl
  refine q_if (t_test (e_eqI (e_var rfl (.int _)) e_int)) (fun _ H6 s6 => ?_) fun _ H6 s6 => ?_
  · have a6 := a5.then s6
    refine s_retD a6.str (d_three (d_next (m := m) rfl (d_ev fun H7 a7 => e_var rfl (.int _)) m1 (by omega)) (d_ev (d := .tup (ru.res.map rowD)) fun H7 a7 => e_var rfl (b4.by (k15 ((SS.of a5.str s6).trans a7)))) (d_ev (d := .tup (ru.nxt.map nxtD)) fun H7 a7 => e_var rfl (b5.by (k15 ((SS.of a5.str s6).trans a7))))) fun v' H7 d a7 r7 hd => ?_
    obtain ⟨_, _, _, rfl, ⟨i0, hi0, rfl⟩, rfl, rfl⟩ := hd
    exact q v' ⟨i0, ru.res, ru.nxt⟩ H7 ⟨m1, m8, hi0, o.resL, o.res, o.nxtL, o.nxt⟩ (a6.trans a7).same a7.str r7
  have a6 := a5.then s6
  have k16 : ∀ {H7}, SS s l H6 H7 → Kp H1 H7 := fun a => k15 ((SS.of a5.str s6).trans a)
  refine q_if (t_test (e_eqI (e_var rfl (.int _)) e_int)) (fun _ H7 s7 => ?_) fun _ H7 s7 => ?_
  · have a7 := a6.then s7
    have k17 : ∀ {H8}, SS s l H7 H8 → Kp H1 H8 := fun a => k16 ((SS.of a6.str s7).trans a)
    refine s_retD a7.str (d_three (d_ev (d := natD ru.init) fun H8 a8 => e_var rfl (.int _))
      (d_with (f := rowD) (p := fun row => row.length = m ∧ ∀ y ∈ row, y < S.n) (rows := ru.res) (i := x) (by rw [o.resL]; exact hx) (by rw [o.resL]; omega) (d_ev fun H8 a8 => e_var rfl (b4.by (k17 a8))) (d_ev fun H8 a8 => e_var rfl (.int _))
        ((d_with (f := natD) (p := fun y => y < S.n) (rows := ru.res.getD x []) (i := z) (by omega) (by omega) (d_ev fun H8 a8 => e_ixT (n := x) (e_var rfl (b4.by (k17 a8))) (e_var rfl (.int _)) g1) (d_ev fun H8 a8 => e_var rfl (.int _)) (d_next (m := S.n) rfl (d_ev fun H8 a8 => e_ixC 0 (e_var rfl (ksys (a7.trans a8))) rfl) n1 (by omega))).mono
          fun d ⟨y, hy, e⟩ => ⟨(ru.res.getD x []).set z y, ⟨by rw [List.length_set]; exact w2, mem_set w3 hy⟩, e⟩))
      (d_ev (d := .tup (ru.nxt.map nxtD)) fun H8 a8 => e_var rfl (b5.by (k17 a8)))) fun v' H8 d a8 r8 hd => ?_
    obtain ⟨_, _, _, rfl, rfl, ⟨row, hrow, rfl⟩, rfl⟩ := hd
    exact q v' ⟨ru.init, ru.res.set x row, ru.nxt⟩ H8 ⟨m1, m8, o.init, by show (ru.res.set x row).length = S.n; rw [List.length_set]; exact o.resL, mem_set o.res hrow, o.nxtL, o.nxt⟩ (a7.trans a8).same a8.str r8
  have a7 := a6.then s7
  have k17 : ∀ {H8}, SS s l H7 H8 → Kp H1 H8 := fun a => k16 ((SS.of a6.str s7).trans a)
  refine q_setD a7.str (d_withR (f := natD) (p := fun y => y < m) (rows := ru.nxtRow x z) (k := S.T.length) (by omega) (by omega) (d_ev fun H8 a8 => e_ixT (n := z) (e_ixT (n := x) (e_var rfl (b5.by (k17 a8))) (e_var rfl (.int _)) g3) (e_var rfl (.int _)) g4) (d_next (m := S.T.length) rfl (d_ev fun H8 a8 => e_cmds (e_var rfl (ksys (a7.trans a8)))) c1 (by omega)) (d_next (m := m) rfl (d_ev fun H8 a8 => e_var rfl (.int _)) m1 (by omega))) fun v10 H8 d a8' b10 hd => ?_
  obtain ⟨i, y, hi, hy, rfl⟩ := hd
  have a8 := a7.trans a8'
  have k18 : ∀ {H9}, SS s l H8 H9 → Kp H1 H9 := fun a => k17 (a8'.trans a)
  have hrow : ((ru.nxtRow x z).set i y).length = S.T.length ∧ ∀ w ∈ (ru.nxtRow x z).set i y, w < m := ⟨by rw [List.length_set]; exact u2, mem_set u3 hy⟩
  refine s_retD a8.str (d_three (d_ev (d := natD ru.init) fun H9 a9 => e_var rfl (.int _)) (d_ev (d := .tup (ru.res.map rowD)) fun H9 a9 => e_var rfl (b4.by (k18 a9)))
    (d_with (f := nxtD) (p := fun a => a.length = m ∧ ∀ b ∈ a, b.length = S.T.length ∧ ∀ w ∈ b, w < m) (rows := ru.nxt) (i := x) (by rw [o.nxtL]; exact hx) (by rw [o.nxtL]; omega) (d_ev fun H9 a9 => e_var rfl (b5.by (k18 a9))) (d_ev fun H9 a9 => e_var rfl (.int _))
      ((d_with (f := rowD) (p := fun b => b.length = S.T.length ∧ ∀ w ∈ b, w < m) (rows := ru.nxt.getD x []) (i := z) (by omega) (by omega) (d_ev fun H9 a9 => e_ixT (n := x) (e_var rfl (b5.by (k18 a9))) (e_var rfl (.int _)) g3) (d_ev fun H9 a9 => e_var rfl (.int _)) ((d_ev (d := rowD ((ru.nxtRow x z).set i y)) fun H9 a9 => e_var rfl (b10.by a9.kp)).mono fun d e => ⟨_, hrow, e⟩)).mono
        fun d ⟨b, hb, e⟩ => ⟨(ru.nxt.getD x []).set z b, ⟨by rw [List.length_set]; exact y2, mem_set y3 hb⟩, e⟩))) fun v' H9 d a9 r9 hd => ?_
  obtain ⟨_, _, _, rfl, rfl, rfl, ⟨na, hna, rfl⟩⟩ := hd
  exact q v' ⟨ru.init, ru.res, ru.nxt.set x na⟩ H9 ⟨m1, m8, o.init, o.resL, o.res, by show (ru.nxt.set x na).length = S.n; rw [List.length_set]; exact o.nxtL, mem_set o.nxt hna⟩ (a8.trans a9).same a9.str r9
end
end Ub
set_option maxHeartbeats 4000000
/-! UbTo: _law_told_rule. -/
namespace Ub
open PySem PySem.Spec PyProof.Rows L2
section
variable {P : Program} {w : World} {K : PySem.W.Frag} {mg : PySem.Str → Option Value} {base : Heap} {σ : L2.St} {H Hb H' : Hp} {ta tb tc te tl ti ty : TE} {ds es : List Dt} {d : Dt} {D : Ends} {tz tu tw : TS}
theorem FrT.r {v : V} {row : List Nat} (h : FrT H v row) : R H v (rowD row) := by
  obtain ⟨a, o, rfl, e, _⟩ := h
  have e2 : (row.map fun n : Nat => (n : Int)).map V.int = row.map fun n : Nat => V.int (n : Int) := by rw [List.map_map]; rfl
  rw [e2] at e
  exact .tup (.inr ⟨o, e⟩) (RA.of_nats row)
theorem frs_ra : ∀ {xs : List V} {rows : List (List Nat)}, Paired (FrT H) xs rows → RA H xs (rows.map rowD)
  | _, _, .nil => .nil
  | _, _, .cons q t => .cons q.r (frs_ra t)
/-- found[i].index(y) -/
theorem e_index {p : Addr} {xs : List V} {rows : List (List Nat)} {i y : Nat} {row : List Nat} (hp : H p = some (.lst xs)) (hfr : Paired (FrT H) xs rows) (hl : EvV tl σ H (.ref p)) (hi : Ev ti σ H (natD i)) (hrow : rows[i]? = some row) (hy : Ev ty σ H (natD y)) (hm : y ∈ row) :
    ∃ k, k < row.length ∧ Ev (tMG tyF (rIdxT K) (tOp (rIxL K) tl ti) (tCons ty tNil)) σ H (natD k) := by
  obtain ⟨v, hv, a, o, rfl, e, hd, hc⟩ := paired_get hfr hrow
  have hm2 : (y : Int) ∈ row.map fun n : Nat => (n : Int) := List.mem_map.mpr ⟨y, hm, rfl⟩
  refine ⟨(row.map fun n : Nat => (n : Int)).idxOf (y : Int), ?_, fun H1 s Q q => ?_⟩
  · have := List.idxOf_lt_length_iff.mpr hm2
    rw [List.length_map] at this
    exact this
  · refine v_ixL hp hl hi hv H1 s _ fun H2 s2 => ⟨⟨a, o, _, rfl, s2 _ _ (s _ _ e), hd, hc⟩, hy H2 (s.trans s2) _ fun w H3 s3 r3 => ⟨a, _, (y : Int), rfl, by rw [r3.int_eq], sqT_of (.inr ⟨o, s3 _ _ (s2 _ _ (s _ _ e))⟩), hm2, q _ H3 (s2.trans s3) (.int _)⟩⟩
/-- t * k -/
theorem e_rep {k : Nat} (ha : Ev ta σ H (.tup ds)) (hb : Ev tb σ H (natD k)) (hn : ds ≠ []) (hk : k ≤ 1000) (hl : ds.length ≤ 1000) : Ev (tOp (rRepA K) ta tb) σ H (.tup (List.replicate k ds).flatten) := fun H1 s Q q =>
  ha H1 s _ fun va H2 s2 r2 => hb H2 (s.trans s2) _ fun vb H3 s3 r3 => by
    obtain ⟨a, xs, rfl, a1, a2⟩ := (r2.by (Kp.same s3)).tup_at
    have hx := a2.length
    refine ⟨a, (k : Int), xs, rfl, r3.int_eq, sqT_of a1, fun z => hn ?_, by omega, by omega, by omega, fun e => ?_, fun e p hp => ?_⟩
    · subst z
      exact List.eq_nil_of_length_eq_zero hx.symm
    · have ek : k = 1 := by omega
      subst ek
      have e2 : (List.replicate 1 ds).flatten = ds := by simp
      rw [e2] at q
      exact q _ _ (s2.trans s3) (.tup a1 a2)
    · have ek : ((k : Int)).toNat = k := by omega
      rw [ek]
      refine q _ _ ((s2.trans s3).trans (same_new hp)) (.tup (.inl upd_same) ?_)
      have go : ∀ k, RA (upd H3 p (.tup (List.replicate k xs).flatten)) (List.replicate k xs).flatten (List.replicate k ds).flatten := fun k => by
        have hh := a2.by (Kp.new (o := .tup (List.replicate k xs).flatten) hp)
        generalize upd H3 p (.tup (List.replicate k xs).flatten) = H4 at hh
        induction k with
        | zero => exact .nil
        | succ k ih =>
          rw [List.replicate_succ, List.replicate_succ, List.flatten_cons, List.flatten_cons]
          exact hh.append ih
      exact go k
/-- l.append(e), l new since Hb -/
theorem s_apb {p : Addr} {xs : List V} {n : Nat} (sb : Same Hb H) (hb : Hb p = none) (hp : H p = some (.lst xs)) (hr : RA H xs ds) (h0 : σ[n]? = some (some (.ref p))) (h : Ev te σ H d) (hz : ds.length ≤ 5000)
    (k : ∀ xs' H1, Same Hb H1 → (∀ b o, b ≠ p → H b = some o → H1 b = some o) → Kp H H1 → H1 p = some (.lst xs') → RA H1 xs' (ds ++ [d]) → D.nx σ H1) : tDrop (tBM K "list" rAppend (tVar n) (tCons te tNil)) D σ H :=
  s_app hp hr (v_var h0) h (by rw [hr.length]; exact hz) fun xs' H1 k1 oth e r => k xs' H1 (fun b o z => oth b o (ne_of_none z hb) (sb b o z)) oth k1 e r
theorem q_apb {p : Addr} {xs : List V} {n : Nat} (sb : Same Hb H) (hb : Hb p = none) (hp : H p = some (.lst xs)) (hr : RA H xs ds) (h0 : σ[n]? = some (some (.ref p))) (h : Ev te σ H d) (hz : ds.length ≤ 5000)
    (k : ∀ xs' H1, Same Hb H1 → (∀ b o, b ≠ p → H b = some o → H1 b = some o) → Kp H H1 → H1 p = some (.lst xs') → RA H1 xs' (ds ++ [d]) → tz D σ H1) : tSeq (tDrop (tBM K "list" rAppend (tVar n) (tCons te tNil))) tz D σ H := s_apb (D := { D with nx := tz D }) sb hb hp hr h0 h hz k
/-- l = [] -/
theorem q_nil {n : Nat} (k : ∀ p H1, Same H H1 → H p = none → H1 p = some (.lst []) → tz D (σ.set n (some (.ref p))) H1) : tSeq (tAsg (tLst tNil) (gName n)) tz D σ H :=
  q_setL (l_lst a_nil (Nat.zero_le _)) fun p xs H1 s hn hl r => by
    cases r
    exact k p H1 s hn hl
/-- a list of data of one kind -/
def Ls {α : Type} (f : α → Dt) (p : α → Prop) (a : Addr) (i : Nat) (H : Hp) : Prop := ∃ (xs : List V) (l : List α), H a = some (.lst xs) ∧ RA H xs (l.map f) ∧ l.length = i ∧ ∀ x ∈ l, p x
theorem Ls.nil {α : Type} {f : α → Dt} {p : α → Prop} {a : Addr} (h : H a = some (.lst [])) : Ls f p a 0 H := ⟨[], [], h, .nil, rfl, fun x h => nomatch h⟩
theorem Ls.by {α : Type} {f : α → Dt} {p : α → Prop} {a : Addr} {i : Nat} (h : Ls f p a i H) (s : Same H H') : Ls f p a i H' := let ⟨xs, l, h1, h2, h3⟩ := h; ⟨xs, l, s _ _ h1, h2.by (Kp.same s), h3⟩
theorem Ls.oth {α : Type} {f : α → Dt} {p : α → Prop} {a b : Addr} {i : Nat} (h : Ls f p a i H) (hab : a ≠ b) (s : ∀ c o, c ≠ b → H c = some o → H' c = some o) (k : Kp H H') : Ls f p a i H' := let ⟨xs, l, h1, h2, h3⟩ := h; ⟨xs, l, s _ _ hab h1, h2.by k, h3⟩
theorem s_ls {α : Type} {f : α → Dt} {p : α → Prop} {a : Addr} {i n : Nat} {x : α} (sb : Same Hb H) (hb : Hb a = none) (L : Ls f p a i H) (h0 : σ[n]? = some (some (.ref a))) (h : Ev te σ H (f x)) (hx : p x) (hz : i ≤ 5000)
    (k : ∀ H1, Same Hb H1 → (∀ b o, b ≠ a → H b = some o → H1 b = some o) → Kp H H1 → Ls f p a (i + 1) H1 → D.nx σ H1) : tDrop (tBM K "list" rAppend (tVar n) (tCons te tNil)) D σ H := by
  obtain ⟨xs, l, h1, h2, h3, h4⟩ := L
  refine s_apb sb hb h1 h2 h0 h (by rw [List.length_map]; omega) fun xs' H1 s1 oth k1 e r => k H1 s1 oth k1 ⟨xs', l ++ [x], e, by rw [List.map_append]; exact r, by rw [List.length_append, List.length_singleton, h3], fun y hy => ?_⟩
  rcases List.mem_append.mp hy with hy | hy
  · exact h4 y hy
  · rw [List.mem_singleton.mp hy]
    exact hx
theorem q_ls {α : Type} {f : α → Dt} {p : α → Prop} {a : Addr} {i n : Nat} {x : α} (sb : Same Hb H) (hb : Hb a = none) (L : Ls f p a i H) (h0 : σ[n]? = some (some (.ref a))) (h : Ev te σ H (f x)) (hx : p x) (hz : i ≤ 5000)
    (k : ∀ H1, Same Hb H1 → (∀ b o, b ≠ a → H b = some o → H1 b = some o) → Kp H H1 → Ls f p a (i + 1) H1 → tz D σ H1) : tSeq (tDrop (tBM K "list" rAppend (tVar n) (tCons te tNil))) tz D σ H := s_ls (D := { D with nx := tz D }) sb hb L h0 h hx hz k
theorem e_lsT {α : Type} {f : α → Dt} {p : α → Prop} {a : Addr} {i n : Nat} (L : Ls f p a i H) (h0 : σ[n]? = some (some (.ref a))) : ∃ l : List α, l.length = i ∧ (∀ x ∈ l, p x) ∧ Ev (tCB (rTupOf K) (tCons (tVar n) tNil)) σ H (.tup (l.map f)) := by
  obtain ⟨xs, l, h1, h2, h3, h4⟩ := L
  exact ⟨l, h3, h4, e_tupV h1 h2 (v_var h0)⟩

/-! ### _law_told_rule -/
theorem f_Ltold (D : DefAt K mg "_law_told_rule" s_Ltold_rule) (B : Bi mg) (C1 : Cal P w K mg base "_law_counterparts" 2 ["_law_system_here", "_law_state", "_law_command"] spLCounterparts) : Cal P w K mg base "_law_told_rule" 3 ["_law_system_here", "_law_state", "_law_command"] spTold := by
  refine cal_Ltold_rule D B C1 (len_spP fun ds P ⟨S, x, c, _, e, _⟩ => by rw [e]; rfl) ?_
  rintro _ H Q E ⟨ds, P, r, ⟨S, x, c, ac, rfl, hP⟩, q⟩
  obtain ⟨v0, v1, v2, rfl, r0, r1, r2⟩ := r.three
  have e1 := r1.int_eq
  have e2 := r2.int_eq
  subst e1 e2
  have ok := ac.ok
  have n1 := ok.n1
  have n4 := ok.n4
  have c3 := ok.c3
  refine q_callX (a_cons (e_var rfl r0) (a_cons (e_var rfl r1) (a_cons (e_var rfl r2) a_nil))) fun vs H1 s1 rr => ⟨S, x, c, ac, rr, fun p xs rows H2 s2 hn hp hfr hlen hrow => ?_⟩
  have S2 := s1.trans s2
  -- the rows
  have hlt : ∀ (z : Nat) (row : List Nat), rows[z]? = some row → ∀ y ∈ row, y < S.n := fun z row h y hy => (ok.rch2 ac.a ac.x (((hrow z row h).2 y).mp hy)).2
  have hat : ∀ z, z < S.n → ∃ row, rows[z]? = some row := fun z hz => ⟨rows[z]'(by omega), List.getElem?_eq_getElem (by omega)⟩
  have el : ((rows.map rowD).map fun d => Dt.int ((items d).length : Int)) = (rows.map fun row => (row.length : Int)).map Dt.int := by
    rw [List.map_map, List.map_map]
    refine List.map_congr_left fun row _ => ?_
    show Dt.int (((row.map natD).length : Nat) : Int) = Dt.int (row.length : Int)
    rw [List.length_map]
  have hne : (rows.map fun row => (row.length : Int)) ≠ [] := fun z => by
    have := congrArg List.length z
    rw [List.length_map, List.length_nil] at this
    omega
  obtain ⟨mI, hmI, hle⟩ := ex_max _ hne
  obtain ⟨mrow, hmr, rfl⟩ := List.mem_map.mp hmI
  obtain ⟨mz, hmz⟩ := List.mem_iff_getElem?.mp hmr
  have hrl : ∀ (z : Nat) (row : List Nat), rows[z]? = some row → row.length ≤ mrow.length := fun z row h => by
    have := hle _ (List.mem_map.mpr ⟨row, List.mem_of_getElem? h, rfl⟩)
    omega
  have m8 : mrow.length ≤ 8 := by
    have := nodup_lt (hrow mz mrow hmz).1 (hlt mz mrow hmz)
    omega
  obtain ⟨arow, harow⟩ := hat _ ac.a
  have hxa : x ∈ arow := ((hrow _ arow harow).2 x).mpr .base
  have m1 : 1 ≤ mrow.length := by
    have h1 := List.length_pos_of_mem hxa
    have h2 := hrl _ _ harow
    omega
  generalize hm : mrow.length = m at hrl m8 m1
  -- many
  refine q_set (d := natD m) (Ev.is (e_max (ns := rows.map fun row => (row.length : Int)) ?_ hmI hle) (by rw [hm]; rfl)) fun v4 H3 s3 r4 => ?_
  · rw [← el]
    exact l_lcV (f := fun d => .int ((items d).length : Int)) hp (frs_ra hfr) (v_var rfl) (fun _ => rfl) (by rw [List.length_map]; omega)
      (fun i d v H3 s3 hd hv => by
        rw [List.getElem?_map] at hd
        obtain ⟨row, hrow, rfl⟩ := Option.map_eq_some_iff.mp hd
        exact e_lenT (e_var rfl hv))
  have e4 := r4.int_eq
  subst e4
  refine q_nil fun p5 H4 s4 hn5 hl5 => ?_
  refine q_nil fun p6 H5 s5 hn6 hl6 => ?_
  have S5 : Same H2 H5 := (s3.trans s4).trans s5
  have hb5 : H2 p5 = none := s3.free hn5
  have hb6 : H2 p6 = none := (s3.trans s4).free hn6
  have h56 : p5 ≠ p6 := by
    intro z
    subst z
    rw [hn6] at hl5
    cases hl5
  let pR : List Nat → Prop := fun row => row.length = m ∧ ∀ y ∈ row, y < S.n
  let pB : List Nat → Prop := fun b => b.length = S.T.length ∧ ∀ z ∈ b, z < m
  let pA : List (List Nat) → Prop := fun a => a.length = m ∧ ∀ b ∈ a, pB b
  refine q_forR (n := S.n) (a_cons (e_ixC 0 (e_var rfl (r0.by (Kp.same (S2.trans S5)))) rfl) a_nil) (by omega) (fun _ i σ' H' => (∃ x7 x8 x9 x10 x11, σ' = [some v0, some (.int (x : Int)), some (.int (c : Int)), some (.ref p), some (.int (m : Int)), some (.ref p5), some (.ref p6), x7, x8, x9, x10, x11]) ∧ Same H2 H' ∧ Ls rowD pR p5 i H' ∧ Ls nxtD pA p6 i H')
    (fun H6 s6 => ⟨⟨none, none, none, none, none, rfl⟩, S5.trans s6, .nil ((s5.trans s6) _ _ hl5), .nil (s6 _ _ hl6)⟩) (fun H6 i σ' H' s6 hi pv => ?_) (fun H6 σ' H' s6 pv => ?_)
  · obtain ⟨⟨x7, x8, x9, x10, x11, rfl⟩, sb, L5, L6⟩ := pv
    obtain ⟨row, hir⟩ := hat i hi
    have hrow' := hrow i row hir
    have hg : (rows.map rowD)[i]? = some (rowD row) := by rw [List.getElem?_map, hir]; rfl
    have hlr := hrl i row hir
    have hlen' : (((row.map natD).length : Nat) : Int) = (row.length : Int) := by rw [List.length_map]
    -- results.append(..)
    refine q_ls (x := row ++ List.replicate (m - row.length) 0) sb hb5 L5 rfl (Ev.is (e_cat (e_ixL (sb _ _ hp) ((frs_ra hfr).by (Kp.same sb)) (v_var rfl) (e_var rfl (.int (i : Int))) hg) (e_rep (k := m - row.length) (e_tup (a_cons e_int a_nil) (Nat.le_of_ble_eq_true rfl))
      (Ev.is (e_sub (e_var rfl (.int _)) (e_lenT (e_ixL (sb _ _ hp) ((frs_ra hfr).by (Kp.same sb)) (v_var rfl) (e_var rfl (.int (i : Int))) hg))) (by rw [List.length_map]; show Dt.int ((m : Int) - (row.length : Int)) = Dt.int ((m - row.length : Nat) : Int); congr 1; omega)) (fun z => nomatch z) (by omega) (Nat.le_of_ble_eq_true rfl)) ?_) ?_)
      ⟨by rw [List.length_append, List.length_replicate]; omega, fun y hy => ?_⟩ (by omega) fun H7 sb7 oth7 k7 L57 => ?_
    · rw [List.length_map, List.flatten_replicate_singleton, List.length_replicate]
      omega
    · rw [List.flatten_replicate_singleton]
      show Dt.tup (row.map natD ++ List.replicate (m - row.length) (natD 0)) = rowD (row ++ List.replicate (m - row.length) 0)
      unfold rowD
      rw [List.map_append, List.map_replicate]
    · rcases List.mem_append.mp hy with hy | hy
      · exact hlt i row hir y hy
      · rw [(List.mem_replicate.mp hy).2]
        omega
    have L67 := L6.oth (Ne.symm h56) oth7 k7
    refine q_nil fun p8 H8 s8 hn8 hl8 => ?_
    -- for note in range(many)
    refine q_forR (n := m) (a_cons (e_var rfl (.int _)) a_nil) (by omega) (fun _ j σ' H' => (∃ x9 x10 x11, σ' = [some v0, some (.int (x : Int)), some (.int (c : Int)), some (.ref p), some (.int (m : Int)), some (.ref p5), some (.ref p6), some (.int (i : Int)), some (.ref p8), x9, x10, x11]) ∧ Same H7 H' ∧ Ls rowD pB p8 j H')
      (fun H9 s9 => ⟨⟨x9, x10, x11, rfl⟩, s8.trans s9, .nil (s9 _ _ hl8)⟩) (fun H9 j σ' H' s9 hj pv => ?_) (fun H9 σ' H' s9 pv => ?_)
    · obtain ⟨⟨y9, y10, y11, rfl⟩, sb8, L8⟩ := pv
      refine q_nil fun p10 H10 s10 hn10 hl10 => ?_
      have S10 : Same H2 H10 := (sb7.trans sb8).trans s10
      have q0 := r0.by (Kp.same (S2.trans S10))
      refine q_forT (ds := S.T.map rowD) (e_ixC 2 (e_var rfl q0) rfl) (fun H11 k σ' H'' => (∃ x11, σ' = [some v0, some (.int (x : Int)), some (.int (c : Int)), some (.ref p), some (.int (m : Int)), some (.ref p5), some (.ref p6), some (.int (i : Int)), some (.ref p8), some (.int (j : Int)), some (.ref p10), x11]) ∧ Same H' H'' ∧ Kp H11 H'' ∧ Ls natD (fun z => z < m) p10 k H'')
        (fun H11 s11 => ⟨⟨y11, rfl⟩, s10.trans s11, Kp.refl _, .nil (s11 _ _ hl10)⟩) (fun H11 k σ' H'' pv => ?_) (fun H11 k d v σ' H'' s11 hd hv pv => ?_) (fun H11 σ' H'' s11 pv => ?_)
      · exact pv.2.2.1
      · obtain ⟨⟨y11', rfl⟩, sb10, k10, L10⟩ := pv
        rw [List.getElem?_map] at hd
        obtain ⟨tbl, htbl, rfl⟩ := Option.map_eq_some_iff.mp hd
        have hk : k < S.T.length := (List.getElem?_eq_some_iff.mp htbl).1
        have etbl : tbl = S.T.getD k [] := by
          have h2 := (ok.row hk).1
          rw [htbl] at h2
          exact Option.some.inj h2
        subst etbl
        have S12 : Same H2 H'' := (sb7.trans sb8).trans sb10
        have hp' := S12 _ _ hp
        have hfr' := paired_by (fun _ _ t => FrT.by (Kp.same S12) t) hfr
        have hra' := frs_ra hfr'
        refine s_if (t_test (e_lt (e_var rfl (.int _)) (e_lenT (e_ixL hp' hra' (v_var rfl) (e_var rfl (.int (i : Int))) hg)))) (fun h H13 s13 => ?_) fun h H13 s13 => ?_
        · have hjl : j < row.length := by
            have h1 := of_decide_eq_true h
            rw [List.length_map] at h1
            omega
          have hy0 : row[j]? = some row[j] := List.getElem?_eq_getElem hjl
          have hym : row[j] ∈ row := List.getElem_mem hjl
          generalize row[j] = y at hy0 hym
          have hrch := (hrow'.2 y).mp hym
          have hyn := hlt i row hir y hym
          obtain ⟨row2, hir2⟩ := hat (S.step i k) (ok.step_lt hk hi)
          have hy2 : S.step y k ∈ row2 := ((hrow _ row2 hir2).2 _).mpr (.next hrch (S.succ2_mem (p := (i, y)) hk))
          have S13 := S12.trans s13
          have hv13 := hv.by (Kp.same s13)
          have gi : ((S.T.getD k []).map natD)[i]? = some (natD (S.step i k)) := by rw [List.getElem?_map, ok.at_ hk hi]; rfl
          have gy : ((S.T.getD k []).map natD)[y]? = some (natD (S.step y k)) := by rw [List.getElem?_map, ok.at_ hk hyn]; rfl
          have gj : (row.map natD)[j]? = some (natD y) := by rw [List.getElem?_map, hy0]; rfl
          obtain ⟨ix, hix, hev⟩ := e_index (K := K) (tl := tVar 3) (ti := tOp (rIxT K) (tVar 11) (tVar 7)) (ty := tOp (rIxT K) (tVar 11) (tOp (rIxT K) (tOp (rIxL K) (tVar 3) (tVar 7)) (tVar 9))) (S13 _ _ hp) (paired_by (fun _ _ t => FrT.by (Kp.same S13) t) hfr)
            (σ := [some v0, some (.int (x : Int)), some (.int (c : Int)), some (.ref p), some (.int (m : Int)), some (.ref p5), some (.ref p6), some (.int (i : Int)), some (.ref p8), some (.int (j : Int)), some (.ref p10), some v]) (v_var rfl) (e_ixT (n := i) (e_var rfl hv13) (e_var rfl (.int _)) gi) hir2
            (e_ixT (n := y) (e_var rfl hv13) (e_ixT (n := j) (e_ixL (s13 _ _ hp') (hra'.by (Kp.same s13)) (v_var rfl) (e_var rfl (.int (i : Int))) hg) (e_var rfl (.int _)) gj) gy) hy2
          refine s_ls (x := ix) (sb10.trans s13) hn10 (L10.by s13) rfl hev (by have := hrl _ _ hir2; omega) (by omega) fun H14 s14 oth14 k14 L14 => ⟨⟨_, rfl⟩, s14, (k10.trans (Kp.same s13)).trans k14, L14⟩
        · refine s_ls (x := 0) (sb10.trans s13) hn10 (L10.by s13) rfl e_int (by omega) (by omega) fun H14 s14 oth14 k14 L14 => ⟨⟨_, rfl⟩, s14, (k10.trans (Kp.same s13)).trans k14, L14⟩
      · obtain ⟨⟨y11', rfl⟩, sb10, k10, L10⟩ := pv
        rw [List.length_map] at L10
        obtain ⟨b, hbl, hbp, hev⟩ := e_lsT (K := K) (σ := [some v0, some (.int (x : Int)), some (.int (c : Int)), some (.ref p), some (.int (m : Int)), some (.ref p5), some (.ref p6), some (.int (i : Int)), some (.ref p8), some (.int (j : Int)), some (.ref p10), y11']) (n := 10) L10 rfl
        exact s_ls (x := b) (sb8.trans sb10) hn8 (L8.by sb10) rfl hev ⟨hbl, hbp⟩ (by omega) fun H14 s14 oth14 k14 L14 => ⟨⟨_, _, _, rfl⟩, s14, L14⟩
    · obtain ⟨⟨y9, y10, y11, rfl⟩, sb8, L8⟩ := pv
      obtain ⟨a, hal, hap, hev⟩ := e_lsT (K := K) (σ := [some v0, some (.int (x : Int)), some (.int (c : Int)), some (.ref p), some (.int (m : Int)), some (.ref p5), some (.ref p6), some (.int (i : Int)), some (.ref p8), y9, y10, y11]) (n := 8) L8 rfl
      exact s_ls (x := a) (sb7.trans sb8) hb6 (L67.by sb8) rfl hev ⟨hal, hap⟩ (by omega) fun H14 s14 oth14 k14 L14 => ⟨⟨_, _, _, _, _, rfl⟩, s14, (L57.by sb8).oth h56 oth14 k14, L14⟩
  · obtain ⟨⟨x7, x8, x9, x10, x11, rfl⟩, sb, L5, L6⟩ := pv
    obtain ⟨res, hr1, hr2, ev5⟩ := e_lsT (K := K) (σ := [some v0, some (.int (x : Int)), some (.int (c : Int)), some (.ref p), some (.int (m : Int)), some (.ref p5), some (.ref p6), x7, x8, x9, x10, x11]) (n := 5) L5 rfl
    obtain ⟨nx, hx1, hx2, ev6⟩ := e_lsT (K := K) (σ := [some v0, some (.int (x : Int)), some (.int (c : Int)), some (.ref p), some (.int (m : Int)), some (.ref p5), some (.ref p6), x7, x8, x9, x10, x11]) (n := 6) L6 rfl
    obtain ⟨ix, hix, hev⟩ := e_index (K := K) (tl := tVar 3) (ti := tOp (rIxT K) (tOp (rIxT K) (tOp (rIxT K) (tVar 0) (tC (.int 2))) (tVar 2)) (tVar 1)) (ty := tVar 1) (sb _ _ hp) (paired_by (fun _ _ t => FrT.by (Kp.same sb) t) hfr)
      (σ := [some v0, some (.int (x : Int)), some (.int (c : Int)), some (.ref p), some (.int (m : Int)), some (.ref p5), some (.ref p6), x7, x8, x9, x10, x11]) (v_var rfl) (e_cell ok ac.x ac.c (e_var rfl (r0.by (Kp.same (S2.trans sb)))) (e_var rfl (.int _)) (e_var rfl (.int _))) harow (e_var rfl (.int _)) hxa
    refine s_ret (d := ruleD ⟨ix, res, nx⟩) (e_tup (a_cons hev (a_cons ev5 (a_cons ev6 a_nil))) (Nat.le_of_ble_eq_true rfl)) fun v H7 s7 r7 => q v H7 _ ((S2.trans sb).trans s7) r7 (hP ⟨ix, res, nx⟩ m ⟨m1, m8, ?_, hr1, hr2, hx1, hx2⟩)
    have := hrl _ _ harow
    show ix < m
    omega
end
end Ub
set_option maxHeartbeats 4000000
/-! UbLaw: the law itself. -/
namespace Ub
open PySem PySem.Spec PyProof.Rows L2
/-! ### the small system and its rules -/
def S2 : Sys := ⟨2, 0, [[1, 0]]⟩
def goodR : Rule := ⟨0, [[1], [0]], [[[0]], [[0]]]⟩
def badR : Rule := ⟨0, [[0], [1]], [[[0]], [[0]]]⟩
def eightR : Rule := ⟨0, [List.replicate 8 1, List.replicate 8 0], [List.replicate 8 [0], List.replicate 8 [0]]⟩
theorem S2_ok : S2.Ok := ⟨by decide, by decide, by decide, by decide, by decide, by decide⟩
theorem S2_act : Act S2 0 0 := ⟨S2_ok, by decide, by decide⟩
theorem goodR_ok : goodR.Ok S2 1 := ⟨by decide, by decide, by decide, by decide, by decide, by decide, by decide⟩
theorem badR_ok : badR.Ok S2 1 := ⟨by decide, by decide, by decide, by decide, by decide, by decide, by decide⟩
theorem eightR_ok : eightR.Ok S2 8 := ⟨by decide, by decide, by decide, by decide, by decide, by decide, by decide⟩
theorem S2_rch {r : Rule} (h0 : r.init = 0) (h1 : r.nxtAt 0 0 0 = 0) (h2 : r.nxtAt 1 0 0 = 0) {t : Triple} (h : Rch (r.succ S2) (1, 0, r.init) t) : t = (1, 0, 0) ∨ t = (0, 1, 0) := by
  induction h with
  | base => rw [h0]; exact .inl rfl
  | next _ hu ih =>
    obtain ⟨c, hc, rfl⟩ := r.succ_of hu
    have hc1 : c < 1 := hc
    have ec : c = 0 := by omega
    subst ec
    rcases ih with rfl | rfl
    · refine .inr ?_
      show (S2.step 1 0, S2.step 0 0, r.nxtAt 1 0 0) = (0, 1, 0)
      rw [h2]
      rfl
    · refine .inl ?_
      show (S2.step 0 0, S2.step 1 0, r.nxtAt 0 0 0) = (1, 0, 0)
      rw [h1]
      rfl
theorem S2_step : S2.step 0 0 = 1 := rfl
theorem good_works : goodR.Works S2 (S2.step 0 0) 0 := fun t h => by
  rcases S2_rch (r := goodR) rfl rfl rfl h with rfl | rfl <;> rfl
theorem eight_works : eightR.Works S2 (S2.step 0 0) 0 := fun t h => by
  rcases S2_rch (r := eightR) rfl rfl rfl h with rfl | rfl <;> rfl
theorem bad_not : ¬ badR.Works S2 (S2.step 0 0) 0 := fun h => by
  have := h _ .base
  exact absurd (show badR.resAt 1 0 = 0 from this) (by decide)
def i0 : Dt := .int 0
def i1 : Dt := .int 1
def t1 (a : Dt) : Dt := .tup [a]
def t2 (a b : Dt) : Dt := .tup [a, b]
def t3 (a b c : Dt) : Dt := .tup [a, b, c]
def gd1 : Dt := t2 (t1 i1) (t1 i0)
def gd2 : Dt := t2 (t1 (t1 i0)) (t1 (t1 i0))
theorem good_is : ruleD goodR = t3 i0 gd1 gd2 := rfl
def oddA : List Dt := [.non, .tup ([i0, gd1, gd2].take 2), .lst, t3 i0 .lst gd2, t3 i1 gd1 gd2, t3 (.bl false) gd1 gd2, t3 i0 (t1 (t1 i1)) gd2, t3 i0 (t2 (t1 i1) (t1 (.int 2))) gd2]
def oddB : List Dt := [t3 i0 (t2 (t1 i1) (t1 (.bl true))) gd2, t3 i0 (t2 (.tup []) (.tup [])) (t2 (t1 (.tup [])) (t1 (.tup []))), t3 i0 gd1 (t1 (t1 (t1 i0))), t3 i0 gd1 (t2 (t1 (t1 i0)) (t1 (t1 i1))), t3 i0 gd1 (t2 (t1 (t1 i0)) (t1 (.tup [])))]
def rp (n : Nat) (l : List Dt) : Dt := .tup (List.replicate n l).flatten
def oddC : List Dt := [t3 i0 gd1 (t2 (t1 (t1 i0)) (t1 (t1 (.bl false)))), t3 i0 (t2 (rp 9 [i1]) (rp 9 [i0])) (t2 (rp 9 [t1 i0]) (rp 9 [t1 i0])), t3 i0 (t2 (t1 i1) .lst) gd2, t3 i0 (t2 (t1 i1) (t2 i0 i0)) gd2, .tup ([i0, gd1, gd2] ++ [i0])]
def oddD : List Dt := [t3 i0 gd1 (t2 (t1 (t1 i0)) (t1 .lst)), t3 i0 gd1 (t2 (t1 (t1 i0)) (t1 (t2 i0 i0))), t3 .non gd1 gd2, t3 i0 (t2 (t1 i0) (t1 i1)) gd2]
def Odd (z : Dt) : Prop := isRuleB S2 z = false ∨ z = ruleD badR
theorem odd_all : ∀ z ∈ ((oddA ++ oddB) ++ oddC) ++ oddD, Odd z := by
  have hA : ∀ z ∈ oddA, isRuleB S2 z = false := by
    intro z hz
    unfold oddA at hz
    simp only [List.mem_cons, List.not_mem_nil, or_false] at hz
    rcases hz with rfl | rfl | rfl | rfl | rfl | rfl | rfl | rfl <;> decide
  have hB : ∀ z ∈ oddB, isRuleB S2 z = false := by
    intro z hz
    unfold oddB at hz
    simp only [List.mem_cons, List.not_mem_nil, or_false] at hz
    rcases hz with rfl | rfl | rfl | rfl | rfl <;> decide
  have hC : ∀ z ∈ oddC, isRuleB S2 z = false := by
    intro z hz
    unfold oddC at hz
    simp only [List.mem_cons, List.not_mem_nil, or_false] at hz
    rcases hz with rfl | rfl | rfl | rfl | rfl <;> decide
  have hD : ∀ z ∈ oddD, Odd z := by
    intro z hz
    unfold oddD at hz
    simp only [List.mem_cons, List.not_mem_nil, or_false] at hz
    rcases hz with rfl | rfl | rfl | rfl
    · exact .inl (by decide)
    · exact .inl (by decide)
    · exact .inl (by decide)
    · exact .inr rfl
  intro z hz
  rcases List.mem_append.mp hz with hz | hz
  · rcases List.mem_append.mp hz with hz | hz
    · rcases List.mem_append.mp hz with hz | hz
      · exact .inl (hA z hz)
      · exact .inl (hB z hz)
    · exact .inl (hC z hz)
  · exact hD z hz
def RuleP (S : Sys) (z : Dt) : Prop := ∃ (r : Rule) (m : Nat), r.Ok S m ∧ z = ruleD r
section
variable {s l : Addr} {P : Program} {w : World} {K : PySem.W.Frag} {mg : PySem.Str → Option Value} {base : Heap} {σ : L2.St} {H H0 H' : Hp} {ta tr tb tc te tl tk tv tx : TE} {ds es : List Dt} {d a b c : Dt} {D : Ends} {tz tu tw : TS} {Pd Qd : Dt → Prop}
theorem e_t1 (ha : Ev ta σ H a) : Ev (tTup (tCons ta tNil)) σ H (t1 a) := e_tup (a_cons ha a_nil) (Nat.le_of_ble_eq_true rfl)
theorem e_t2 (ha : Ev ta σ H a) (hb : Ev tb σ H b) : Ev (tTup (tCons ta (tCons tb tNil))) σ H (t2 a b) := e_tup (a_cons ha (a_cons hb a_nil)) (Nat.le_of_ble_eq_true rfl)
theorem e_t3 (ha : Ev ta σ H a) (hb : Ev tb σ H b) (hc : Ev tc σ H c) : Ev (tTup (tCons ta (tCons tb (tCons tc tNil)))) σ H (t3 a b c) := e_tup (a_cons ha (a_cons hb (a_cons hc a_nil))) (Nat.le_of_ble_eq_true rfl)
theorem e_t0 : Ev (tTup tNil) σ H (.tup []) := e_tup a_nil (Nat.zero_le _)
theorem e_lst {t : TA} (h : EvA t σ H ds) (hl : ds.length ≤ 5000) : Ev (tLst t) σ H .lst := fun H1 s Q q => l_lst h hl H1 s Q fun p xs H2 s2 _ hp _ => q _ H2 s2 (.lst hp)
theorem e_lof (h : Ev te σ H (.tup ds)) : Ev (tCB (rListOf K) (tCons te tNil)) σ H .lst := fun H1 s Q q => h H1 s _ fun v H2 s2 r2 => by
  obtain ⟨p, xs, rfl, h1, h2⟩ := r2.tup_at
  exact ⟨p, xs, rfl, .inr (sqT_of h1), fun l hl => q _ _ (s2.trans (same_new hl)) (.lst upd_same)⟩
theorem e_rp {n : Nat} (ha : Ev ta σ H (.tup ds)) (hn : ds ≠ []) (hk : n ≤ 1000) (hl : ds.length ≤ 1000) : Ev (tOp (rRepA K) ta (tC (.int (n : Int)))) σ H (rp n ds) := e_rep ha e_int hn hk hl
theorem c0 : Ev (tC (.int 0)) σ H i0 := e_int
theorem c1 : Ev (tC (.int 1)) σ H i1 := e_int
/-- x = l + m, l a list that stands, m a new one -/
theorem q_catV {n k : Nat} {p : Addr} {xs : List V} (hp : H p = some (.lst xs)) (hr : RA H xs ds) (h0 : σ[k]? = some (some (.ref p))) (h : EvL te σ H es) (hz : ds.length + es.length ≤ 5000)
    (q : ∀ p' xs' H1, Same H H1 → H p' = none → H1 p' = some (.lst xs') → RA H1 xs' (ds ++ es) → tz D (σ.set n (some (.ref p'))) H1) : tSeq (tAsg (tOp rCat (tVar k) te) (gName n)) tz D σ H :=
  ⟨.ref p, h0, h H (Same.refl H) _ fun p2 ys H2 s2 hn hl r2 => ⟨p, p2, xs, ys, rfl, rfl, s2 _ _ hp, hl, sz1 (by rw [hr.length, r2.length]; exact hz), fun p' hp' =>
    q p' (xs ++ ys) _ (s2.trans (same_new hp')) (s2.free hp') upd_same (((hr.by (Kp.same s2)).append r2).by (Kp.new hp'))⟩⟩
theorem q_catDV {n k : Nat} {p : Addr} {xs : List V} {Ql : List Dt → Prop} (hs : Strm s l H) (hps : p ≠ s) (hp : H p = some (.lst xs)) (hr : RA H xs ds) (h0 : σ[k]? = some (some (.ref p))) (h : EvDL s l te σ H Ql) (hz : ∀ es, Ql es → ds.length + es.length ≤ 5000)
    (q : ∀ p' xs' H1 es, SS s l H H1 → H p' = none → H1 p' = some (.lst xs') → RA H1 xs' (ds ++ es) → Ql es → tz D (σ.set n (some (.ref p'))) H1) : tSeq (tAsg (tOp rCat (tVar k) te) (gName n)) tz D σ H :=
  ⟨.ref p, h0, h H (SS.refl hs) _ fun p2 ys H2 es a2 hn hl r2 hq => ⟨p, p2, xs, ys, rfl, rfl, a2.ref hp hps, hl, sz1 (by rw [hr.length, r2.length]; exact hz es hq), fun p' hp' =>
    q p' (xs ++ ys) _ es (a2.then (same_new hp')) (a2.free hp') upd_same (((hr.by a2.kp).append r2).by (Kp.new hp')) hq⟩⟩
theorem q_catDL {n : Nat} {Ql : List Dt → Prop} (hs : Strm s l H) (hl0 : EvL ta σ H ds) (h : ∀ H1, SS s l H H1 → EvDL s l te σ H1 Ql) (hz : ∀ es, Ql es → ds.length + es.length ≤ 5000)
    (q : ∀ p' xs' H1 es, SS s l H H1 → H p' = none → H1 p' = some (.lst xs') → RA H1 xs' (ds ++ es) → Ql es → tz D (σ.set n (some (.ref p'))) H1) : tSeq (tAsg (tOp rCat ta te) (gName n)) tz D σ H :=
  hl0 H (Same.refl H) _ fun p xs H1 s1 hn hp hr => by
    have a1 := SS.of hs s1
    exact h H1 a1 H1 (SS.refl a1.str) _ fun p2 ys H2 es a2 hn2 hl r2 hq => ⟨p, p2, xs, ys, rfl, rfl, a2.ref hp (hs.ne hn).1, hl, sz1 (by rw [hr.length, r2.length]; exact hz es hq), fun p' hp' =>
      q p' (xs ++ ys) _ es ((a1.trans a2).then (same_new hp')) ((a1.trans a2).free hp') upd_same (((hr.by a2.kp).append r2).by (Kp.new hp')) hq⟩
theorem d_bent {S : Sys} {r : Rule} {m n0 n1 n2 : Nat} {v u : V} (h0 : σ[n0]? = some (some (.ref s))) (h1 : σ[n1]? = some (some v)) (h2 : σ[n2]? = some (some u)) (ok : S.Ok) (r1 : R H v (sysD S)) (o : r.Ok S m) (r2 : R H u (ruleD r)) :
    EvD s l (tCall spBent [] E0 (tCons (tVar n0) (tCons (tVar n1) (tCons (tVar n2) tNil)))) σ H (RuleP S) := fun H1 a Q q =>
  ⟨.ref s, h0, v, h1, u, h2, s, l, v, u, S, r, m, rfl, ok, r1.by a.kp, o, r2.by a.kp, a.str, fun v' r' H2 o' ss st rr => q v' H2 _ ⟨a.str, ss, st⟩ rr ⟨r', m, o', rfl⟩⟩
theorem d_drawn {S : Sys} {n0 n1 : Nat} {v : V} (h0 : σ[n0]? = some (some (.ref s))) (h1 : σ[n1]? = some (some v)) (ok : S.Ok) (r1 : R H v (sysD S)) (h : EvD s l te σ H (fun z => ∃ d, 1 ≤ d ∧ d ≤ 3 ∧ z = natD d)) :
    EvD s l (tCall spDrawn [] E0 (tCons (tVar n0) (tCons (tVar n1) (tCons te tNil)))) σ H (RuleP S) := fun H1 a Q q =>
  ⟨.ref s, h0, v, h1, h H1 a _ fun x H2 d a2 r2 ⟨m, m1, m3, e⟩ => by
    subst e
    have ev := r2.int_eq
    subst ev
    exact ⟨s, l, v, S, m, rfl, ok, r1.by (a.trans a2).kp, m1, by omega, a2.str, fun v' r' H3 o' ss st rr => q v' H3 _ (a2.trans ⟨a2.str, ss, st⟩) rr ⟨r', m, o', rfl⟩⟩⟩
/-- l[draw] -/
theorem d_ixL {n k : Nat} {p : Addr} {xs : List V} (hps : p ≠ s) (hp : H p = some (.lst xs)) (hr : RA H xs ds) (h0 : σ[k]? = some (some (.ref p))) (hn : n ≤ ds.length) (h : EvD s l te σ H (fun z => ∃ d, d < n ∧ z = natD d)) : EvD s l (tOp (rIxL K) (tVar k) te) σ H (fun z => z ∈ ds) := fun H1 a Q q =>
  ⟨.ref p, h0, h H1 a _ fun x H2 d a2 r2 ⟨i, hi, e⟩ => by
    subst e
    have ev := r2.int_eq
    subst ev
    have hil : i < ds.length := by omega
    obtain ⟨v, h3, h4⟩ := (hr.by (a.trans a2).kp).get (i := i) (List.getElem?_eq_getElem hil)
    exact ⟨p, xs, (i : Int), v, rfl, rfl, sqL_of ((a.trans a2).ref hp hps), atI_nat h3, q v H2 _ a2 h4 (List.getElem_mem hil)⟩⟩
theorem q_ifnD (hs : Strm s l H) (h : EvD s l te σ H (fun z => z = .bl true)) (k : ∀ H1, SS s l H H1 → tw { D with nx := tz D } σ H1) : tSeq (tIfS (tNot (tB te)) tu tw) tz D σ H :=
  h H (SS.refl hs) _ fun v H1 d a1 r1 e => by
    subst e
    have ev := r1.bl_eq
    subst ev
    exact ⟨true, rfl, iteF (k H1 a1)⟩
end
end Ub
set_option maxHeartbeats 4000000
/-! UbLaw2: law answers True. -/
namespace Ub
open PySem PySem.Spec PyProof.Rows L2
section
variable {s l : Addr} {P : Program} {w : World} {K : PySem.W.Frag} {mg : PySem.Str → Option Value} {base : Heap} {σ : L2.St} {H H0 H' : Hp} {ta tr tb tc te tl tk tv tx : TE} {ds es : List Dt} {d a b c : Dt} {D : Ends} {tz tu tw : TS} {Pd Qd : Dt → Prop}
theorem da_ev {t : TA} (h : ∀ H1, SS s l H H1 → EvA t σ H1 ds) : EvDA s l t σ H (fun z => z = ds) := fun H1 a Q q => h H1 a H1 (Same.refl H1) Q fun vs H2 s2 r => q vs H2 ds (SS.of a.str s2) r rfl
theorem f_law (D : DefAt K mg "law" s_law) (B : Bi mg) (C_Lstream : Cal P w K mg base "_law_stream" 1 ["_law_script"] (spStream K)) (C_Lsystem : Cal P w K mg base "_law_system" 2 ["_law_stream_here", "_law_most", "_law_commands"] spSystem) (C_Lnext : Cal P w K mg base "_law_next" 1 ["_law_stream_here", "_law_many"] spNext)
    (C_Ltold_rule : Cal P w K mg base "_law_told_rule" 3 ["_law_system_here", "_law_state", "_law_command"] spTold) (C_least_notes : Cal P w K mg base "least_notes" 5 ["system", "state", "command"] spLeastNotes) (C_Lbent : Cal P w K mg base "_law_bent" 2 ["_law_stream_here", "_law_system_here", "_law_rule"] spBent)
    (C_Ldrawn_rule : Cal P w K mg base "_law_drawn_rule" 2 ["_law_stream_here", "_law_system_here", "_law_many"] spDrawn) (C_Lworks : Cal P w K mg base "_law_works" 1 ["_law_system_here", "_law_state", "_law_command", "_law_rule"] spLWorks) (C_Lequal : Cal P w K mg base "_law_equal" 1 ["_law_actual", "_law_due"] spEqual)
    (C_accepts_rule : Cal P w K mg base "accepts_rule" 4 ["system", "state", "command", "value"] spAccepts) : Cal P w K mg base "law" 6 ["_law_script"] (spLaw K) := by
  refine cal_law D B C_Lstream C_Lsystem C_Lnext C_Ltold_rule C_least_notes C_Lbent C_Ldrawn_rule C_Lworks C_Lequal C_accepts_rule (fun vs H Q E ⟨a, ns, e, _⟩ => by rw [e]; rfl) ?_
  rintro _ H Q E ⟨a, ns, rfl, hs, hlen, q⟩
  refine ⟨.ref a, rfl, a, ns, rfl, hs, fun s l H1 s1 hn st => ?_⟩
  refine ⟨.ref s, rfl, s, l, rfl, st, fun v S H2 ok ss2 st2 r2 => ?_⟩
  have n1 := ok.n1
  have n4 := ok.n4
  have c1' := ok.c1
  have c3 := ok.c3
  -- state, command
  refine q_setD st2 (d_next (m := S.n) rfl (d_ev fun H3 a3 => e_ixC 0 (e_var rfl (r2.by a3.kp)) rfl) n1 (by omega)) fun v3 H3 d a3 r3 hd => ?_
  obtain ⟨x, hx, rfl⟩ := hd
  have e3 := r3.int_eq
  subst e3
  refine q_setD a3.str (d_next (m := S.T.length) rfl (d_ev fun H4 a4 => e_cmds (e_var rfl (r2.by (a3.trans a4).kp))) c1' (by omega)) fun v4 H4 d a4' r4 hd => ?_
  obtain ⟨c, hc, rfl⟩ := hd
  have e4 := r4.int_eq
  subst e4
  have a4 := a3.trans a4'
  have ac : Act S x c := ⟨ok, hx, hc⟩
  -- told, least
  refine q_setD a4.str (d_call (Pd := RuleP S) (da_ev fun H5 a5 => a_cons (e_var rfl (r2.by (a4.trans a5).kp)) (a_cons (e_var rfl (.int _)) (a_cons (e_var rfl (.int _)) a_nil))) (fun ds e => by subst e; exact ⟨S, x, c, ac, rfl, fun r m o => ⟨r, m, o, rfl⟩⟩)) fun v5 H5 d a5' r5 hd => ?_
  obtain ⟨tr, tm, to_, rfl⟩ := hd
  have a5 := a4.trans a5'
  refine q_setD a5.str (d_call (Pd := fun z => ∃ k, LeastP S (S.step x c) x k ∧ z = natD k) (da_ev fun H6 a6 => a_cons (e_var rfl (r2.by (a5.trans a6).kp)) (a_cons (e_var rfl (.int _)) (a_cons (e_var rfl (.int _)) a_nil))) (fun ds e => by subst e; exact ⟨S, x, c, ac, rfl, fun k hk => ⟨k, hk, rfl⟩⟩)) fun v6 H6 d a6' r6 hd => ?_
  obtain ⟨k, hk, rfl⟩ := hd
  have e6 := r6.int_eq
  subst e6
  have a6 := a5.trans a6'
  -- rules
  refine q_catDL a6.str (l_lst (a_cons (e_var rfl (r5.by a6'.kp)) a_nil) (Nat.le_of_ble_eq_true rfl)) (fun H7 a7 => d_lcR (n := 4) (Pd := RuleP S) (fun H8 a8 => a_cons (Ev.is e_int rfl) a_nil) (by decide) (fun _ => rfl) fun i H8 a8 hi => d_bent rfl rfl rfl ok (r2.by ((a6.trans a7).trans a8).kp) to_ (r5.by ((a6'.trans a7).trans a8).kp))
    (fun es h => by rw [h.1, List.length_singleton]; decide) fun p7 xs7 H7 es7 a7' hn7 hl7 r7 hes7 => ?_
  have a7 := a6.trans a7'
  refine q_catDV a7.str (a6.str.ne hn7).1 hl7 r7 rfl (d_lcR (n := 3) (Pd := RuleP S) (fun H8 a8 => a_cons (Ev.is e_int rfl) a_nil) (by decide) (fun _ => rfl) fun i H8 a8 hi => d_drawn rfl rfl ok (r2.by (a7.trans a8).kp) (d_add1 (d_next (m := 3) rfl (d_ev fun H9 a9 => Ev.is e_int rfl) (by decide) (by decide))))
    (fun es h => by rw [h.1, List.length_append, hes7.1, List.length_singleton]; decide) fun p8 xs8 H8 es8 a8' hn8 hl8 r8 hes8 => ?_
  have a8 := a7.trans a8'
  have hall : ∀ d ∈ ([ruleD tr] ++ es7) ++ es8, RuleP S d := by
    intro d hd
    rcases List.mem_append.mp hd with hd | hd
    · rcases List.mem_append.mp hd with hd | hd
      · rw [List.mem_singleton.mp hd]
        exact ⟨tr, tm, to_, rfl⟩
      · exact hes7.2 d hd
    · exact hes8.2 d hd
  generalize ([ruleD tr] ++ es7) ++ es8 = rs at r8 hall
  have r28 := r2.by a8.kp
  refine ⟨.ref p8, rfl, p8, rfl, ⟨xs8, sqL_of hl8⟩, for_list (xs := xs8) (fun i σ' H' => (∃ x8 x9, σ' = [some (.ref a), some (.ref s), some v, some (.int (x : Int)), some (.int (c : Int)), some v5, some (.int (k : Int)), some (.ref p8), x8, x9, none, none, none, none]) ∧ Same H8 H') ⟨⟨none, none, rfl⟩, Same.refl _⟩ (fun i σ H _ p => sqL_of (p.2 _ _ hl8)) ?_ ?_⟩
  · rintro i xv σ' H' hix ⟨⟨x8, x9, rfl⟩, s9⟩
    obtain ⟨d, hd, rd8⟩ := r8.got hix
    obtain ⟨ru, m, o, rfl⟩ := hall d (List.mem_of_getElem? hd)
    have rd := rd8.by (Kp.same s9)
    have rs := r28.by (Kp.same s9)
    obtain ⟨b, hb, hu⟩ := the_bool (ru.Works S (S.step x c) x)
    refine q_set (d := .bl b) (e_call (a_cons (e_var rfl rs) (a_cons (e_var rfl (.int _)) (a_cons (e_var rfl (.int _)) (a_cons (e_var rfl rd) a_nil)))) ⟨S, x, c, ru, m, ac, o, rfl, fun b' hb' => by rw [hu b' hb']⟩) fun vb H10 s10 rb => ?_
    have rd' := rd.by (Kp.same s10)
    have rs' := rs.by (Kp.same s10)
    have g0 : (ru.res.map rowD)[0]? = some (rowD (ru.res.getD 0 [])) := by rw [List.getElem?_map, (o.resRow (x := 0) (by omega)).1]; rfl
    refine s_if (b := false) (EvT.is (t_or (a := false) (EvT.is (t_not (t_B (e_call (d := .bl true) (a_cons (e_call (d := .bl b) (a_cons (e_var rfl rs') (a_cons (e_var rfl (.int _)) (a_cons (e_var rfl (.int _)) (a_cons (e_var rfl rd') a_nil)))) ⟨S, x, c, ruleD ru, ac, rfl, .inr ⟨ru, m, rfl, o, fun b' hb' => by rw [hu b' hb']⟩⟩) (a_cons (e_var rfl rb) a_nil)) ⟨b, b, rfl, by cases b <;> rfl⟩))) rfl)
      fun _ => t_and (t_B (e_var rfl rb)) fun _ => t_test (e_lt (e_lenT (e_ixC 0 (e_ixC 1 (e_var rfl rd') rfl) g0)) (e_var rfl (.int _)))) ?_) (fun h => nomatch h) fun _ H11 s11 => ⟨⟨_, _, rfl⟩, (s9.trans s10).trans s11⟩
    cases hbb : b with
    | false => rfl
    | true =>
      have hw := hb.mp hbb
      have hkm := hk ru m o hw
      rw [List.length_map, (o.resRow (x := 0) (by omega)).2.1, decide_eq_false (by omega)]
      rfl
  · rintro σ' H9 ⟨⟨x8, x9, rfl⟩, s9⟩
    have a9 := a8.then s9
    -- turn, good
    refine q_set (d := sysD S2) (Ev.is (e_t3 (Ev.is e_int rfl) c0 (e_t1 (e_t2 c1 c0))) rfl) fun v10 H10 s10 r10 => ?_
    refine q_set (d := t3 i0 gd1 gd2) (e_t3 c0 (e_t2 (e_t1 c1) (e_t1 c0)) (e_t2 (e_t1 (e_t1 c0)) (e_t1 (e_t1 c0)))) fun v11 H11 s11 r11 => ?_
    have G1 : ∀ {σ : L2.St} {H}, σ[11]? = some (some v11) → R H v11 (t3 i0 gd1 gd2) → Ev (tOp (rIxT K) (tVar 11) (tC (.int 1))) σ H gd1 := fun h r => e_ixC 1 (e_var h r) rfl
    have G2 : ∀ {σ : L2.St} {H}, σ[11]? = some (some v11) → R H v11 (t3 i0 gd1 gd2) → Ev (tOp (rIxT K) (tVar 11) (tC (.int 2))) σ H gd2 := fun h r => e_ixC 2 (e_var h r) rfl
    -- odd
    refine q_setL (ds := oddA) (l_lst (a_cons e_non (a_cons (e_upto (e_var rfl r11) (Ev.is e_int rfl) (by decide)) (a_cons (e_lof (e_var rfl r11)) (a_cons (e_t3 c0 (e_lst (a_cons (e_t1 c1) (a_cons (e_t1 c0) a_nil)) (Nat.le_of_ble_eq_true rfl)) (G2 rfl r11)) (a_cons (e_t3 c1 (G1 rfl r11) (G2 rfl r11)) (a_cons (e_t3 e_bl (G1 rfl r11) (G2 rfl r11))
      (a_cons (e_t3 c0 (e_t1 (e_t1 c1)) (G2 rfl r11)) (a_cons (e_t3 c0 (e_t2 (e_t1 c1) (e_t1 (Ev.is e_int rfl))) (G2 rfl r11)) a_nil)))))))) (by decide)) fun pA xsA H12 s12 hnA hlA rA => ?_
    have r12 := r11.by (Kp.same s12)
    refine q_catV hlA rA rfl (es := oddB) (l_lst (a_cons (e_t3 c0 (e_t2 (e_t1 c1) (e_t1 e_bl)) (G2 rfl r12)) (a_cons (e_t3 c0 (e_t2 e_t0 e_t0) (e_t2 (e_t1 e_t0) (e_t1 e_t0))) (a_cons (e_t3 c0 (G1 rfl r12) (e_t1 (e_t1 (e_t1 c0)))) (a_cons (e_t3 c0 (G1 rfl r12) (e_t2 (e_t1 (e_t1 c0)) (e_t1 (e_t1 c1)))) (a_cons (e_t3 c0 (G1 rfl r12) (e_t2 (e_t1 (e_t1 c0)) (e_t1 e_t0))) a_nil))))) (by decide)) (by decide) fun pB xsB H13 s13 hnB hlB rB => ?_
    have r13 := r12.by (Kp.same s13)
    have n1 : ∀ (x : Dt), [x] ≠ [] := fun x z => nomatch z
    refine q_catV hlB rB rfl (es := oddC) (l_lst (a_cons (e_t3 c0 (G1 rfl r13) (e_t2 (e_t1 (e_t1 c0)) (e_t1 (e_t1 e_bl)))) (a_cons (e_t3 c0 (e_t2 (e_rp (n := 9) (e_t1 c1) (n1 _) (by decide) (Nat.le_of_ble_eq_true rfl)) (e_rp (n := 9) (e_t1 c0) (n1 _) (by decide) (Nat.le_of_ble_eq_true rfl))) (e_t2 (e_rp (n := 9) (e_t1 (e_t1 c0)) (n1 _) (by decide) (Nat.le_of_ble_eq_true rfl)) (e_rp (n := 9) (e_t1 (e_t1 c0)) (n1 _) (by decide) (Nat.le_of_ble_eq_true rfl))))
      (a_cons (e_t3 c0 (e_t2 (e_t1 c1) (e_lst (a_cons c0 a_nil) (Nat.le_of_ble_eq_true rfl))) (G2 rfl r13)) (a_cons (e_t3 c0 (e_t2 (e_t1 c1) (e_t2 c0 c0)) (G2 rfl r13)) (a_cons (e_cat (e_var rfl r13) (e_t1 c0) (Nat.le_of_ble_eq_true rfl)) a_nil))))) (by decide)) (by decide) fun pC xsC H14 s14 hnC hlC rC => ?_
    have r14 := r13.by (Kp.same s14)
    refine q_catV hlC rC rfl (es := oddD) (l_lst (a_cons (e_t3 c0 (G1 rfl r14) (e_t2 (e_t1 (e_t1 c0)) (e_t1 (e_lst (a_cons c0 a_nil) (Nat.le_of_ble_eq_true rfl))))) (a_cons (e_t3 c0 (G1 rfl r14) (e_t2 (e_t1 (e_t1 c0)) (e_t1 (e_t2 c0 c0)))) (a_cons (e_t3 e_non (G1 rfl r14) (G2 rfl r14)) (a_cons (e_t3 c0 (e_t2 (e_t1 c0) (e_t1 c1)) (G2 rfl r14)) a_nil)))) (by decide)) (by decide) fun pD xsD H15 s15 hnD hlD rD => ?_
    have S15 := ((((s10.trans s11).trans s12).trans s13).trans s14).trans s15
    have a15 := a9.then S15
    have r15 := r14.by (Kp.same s15)
    have t15 := r10.by (Kp.same ((((s11.trans s12).trans s13).trans s14).trans s15))
    have a14 := a9.then ((((s10.trans s11).trans s12).trans s13).trans s14)
    refine q_ifnD a15.str (d_call (Pd := fun z => z = .bl true) (d_cons (d_call (Pd := fun z => z = .bl false) (d_cons (d_ev (d := sysD S2) fun H16 a16 => e_var rfl (t15.by a16.kp)) (d_cons (d_ev (d := natD 0) fun H16 a16 => c0) (d_cons (d_ev (d := natD 0) fun H16 a16 => c0) (d_cons (d_ixL (n := 22) (a14.str.ne hnD).1 hlD rD rfl (by decide) (d_next (m := 22) rfl (d_ev fun H16 a16 => Ev.is e_int rfl) (by decide) (by decide))) d_nil))))
      ?_) (d_cons (d_ev (d := .bl false) fun H16 a16 => e_bl) d_nil)) ?_) fun H16 a16 => ?_
    · rintro ds ⟨d1, l1, e1, rfl, d2, l2, e2, rfl, d3, l3, e3, rfl, d4, l4, e4, h4, rfl⟩
      subst e4 e3 e2 e1
      refine ⟨S2, 0, 0, d4, S2_act, rfl, ?_⟩
      rcases odd_all d4 h4 with h | rfl
      · exact .inl ⟨h, rfl⟩
      · refine .inr ⟨badR, 1, rfl, badR_ok, fun b hb => ?_⟩
        cases b with
        | false => rfl
        | true => exact absurd (hb.mp rfl) bad_not
    · rintro ds ⟨d1, l1, e1, rfl, d2, l2, e2, rfl, rfl⟩
      subst e2 e1
      exact ⟨false, false, rfl, rfl⟩
    · have r16 := r15.by a16.kp
      have t16 := t15.by a16.kp
      refine q_set (d := ruleD eightR) (Ev.is (e_t3 c0 (e_t2 (e_rp (n := 8) (e_t1 c1) (n1 _) (by decide) (Nat.le_of_ble_eq_true rfl)) (e_rp (n := 8) (e_t1 c0) (n1 _) (by decide) (Nat.le_of_ble_eq_true rfl))) (e_t2 (e_rp (n := 8) (e_t1 (e_t1 c0)) (n1 _) (by decide) (Nat.le_of_ble_eq_true rfl)) (e_rp (n := 8) (e_t1 (e_t1 c0)) (n1 _) (by decide) (Nat.le_of_ble_eq_true rfl)))) rfl) fun v13 H17 s17 r17 => ?_
      have g17 := r16.by (Kp.same s17)
      have t17 := t16.by (Kp.same s17)
      refine s_ret (d := .bl true) (Ev.is (e_and (a := true) (b := true) (e_call (a_cons (e_call (d := .bl true) (a_cons (e_var rfl t17) (a_cons c0 (a_cons c0 (a_cons (e_var rfl g17) a_nil)))) ⟨S2, 0, 0, ruleD goodR, S2_act, rfl, .inr ⟨goodR, 1, rfl, goodR_ok, fun b hb => by rw [hb.mpr good_works]⟩⟩) (a_cons e_bl a_nil)) ⟨true, true, rfl, rfl⟩)
        fun _ => e_call (a_cons (e_call (d := .bl true) (a_cons (e_var rfl t17) (a_cons c0 (a_cons c0 (a_cons (e_var rfl r17) a_nil)))) ⟨S2, 0, 0, ruleD eightR, S2_act, rfl, .inr ⟨eightR, 8, rfl, eightR_ok, fun b hb => by rw [hb.mpr eight_works]⟩⟩) (a_cons e_bl a_nil)) ⟨true, true, rfl, rfl⟩) rfl) fun v' H18 s18 r18 => ?_
      rw [r18.bl_eq]
      exact q H18
end
end Ub
set_option maxHeartbeats 0
namespace Ub
open PySem PySem.Spec PyProof.Rows L2
def d_is_whole : He.DefD := ⟨("is_whole", none), "is_whole", "is_whole", defArgs s_is_whole, defBody s_is_whole, defScope s_is_whole, [], []⟩
def d_is_system : He.DefD := ⟨("is_system", none), "is_system", "is_system", defArgs s_is_system, defBody s_is_system, defScope s_is_system, [], []⟩
def d_is_state : He.DefD := ⟨("is_state", none), "is_state", "is_state", defArgs s_is_state, defBody s_is_state, defScope s_is_state, [], []⟩
def d_is_command : He.DefD := ⟨("is_command", none), "is_command", "is_command", defArgs s_is_command, defBody s_is_command, defScope s_is_command, [], []⟩
def d_states_of : He.DefD := ⟨("states_of", none), "states_of", "states_of", defArgs s_states_of, defBody s_states_of, defScope s_states_of, [], []⟩
def d_step : He.DefD := ⟨("step", none), "step", "step", defArgs s_step, defBody s_step, defScope s_step, [], []⟩
def d_pairs_from : He.DefD := ⟨("pairs_from", none), "pairs_from", "pairs_from", defArgs s_pairs_from, defBody s_pairs_from, defScope s_pairs_from, [], []⟩
def d_counterparts_of : He.DefD := ⟨("counterparts_of", none), "counterparts_of", "counterparts_of", defArgs s_counterparts_of, defBody s_counterparts_of, defScope s_counterparts_of, [], []⟩
def d_check_action : He.DefD := ⟨("check_action", none), "check_action", "check_action", defArgs s_check_action, defBody s_check_action, defScope s_check_action, [], []⟩
def d_is_index : He.DefD := ⟨("is_index", none), "is_index", "is_index", defArgs s_is_index, defBody s_is_index, defScope s_is_index, [], []⟩
def d_is_row : He.DefD := ⟨("is_row", none), "is_row", "is_row", defArgs s_is_row, defBody s_is_row, defScope s_is_row, [], []⟩
def d_notes_of : He.DefD := ⟨("notes_of", none), "notes_of", "notes_of", defArgs s_notes_of, defBody s_notes_of, defScope s_notes_of, [], []⟩
def d_least_notes : He.DefD := ⟨("least_notes", none), "least_notes", "least_notes", defArgs s_least_notes, defBody s_least_notes, defScope s_least_notes, [], []⟩
def d_are_nexts : He.DefD := ⟨("are_nexts", none), "are_nexts", "are_nexts", defArgs s_are_nexts, defBody s_are_nexts, defScope s_are_nexts, [], []⟩
def d_is_rule : He.DefD := ⟨("is_rule", none), "is_rule", "is_rule", defArgs s_is_rule, defBody s_is_rule, defScope s_is_rule, [], []⟩
def d_works : He.DefD := ⟨("works", none), "works", "works", defArgs s_works, defBody s_works, defScope s_works, [], []⟩
def d_accepts_rule : He.DefD := ⟨("accepts_rule", none), "accepts_rule", "accepts_rule", defArgs s_accepts_rule, defBody s_accepts_rule, defScope s_accepts_rule, [], []⟩
def d_Lstream : He.DefD := ⟨("_law_stream", none), "_law_stream", "_law_stream", defArgs s_Lstream, defBody s_Lstream, defScope s_Lstream, [], []⟩
def d_Lnext : He.DefD := ⟨("_law_next", none), "_law_next", "_law_next", defArgs s_Lnext, defBody s_Lnext, defScope s_Lnext, [], []⟩
def d_Lis_integer : He.DefD := ⟨("_law_is_integer", none), "_law_is_integer", "_law_is_integer", defArgs s_Lis_integer, defBody s_Lis_integer, defScope s_Lis_integer, [], []⟩
def d_Lequal : He.DefD := ⟨("_law_equal", none), "_law_equal", "_law_equal", defArgs s_Lequal, defBody s_Lequal, defScope s_Lequal, [], []⟩
def d_Lsystem : He.DefD := ⟨("_law_system", none), "_law_system", "_law_system", defArgs s_Lsystem, defBody s_Lsystem, defScope s_Lsystem, [], []⟩
def d_Lpairs : He.DefD := ⟨("_law_pairs", none), "_law_pairs", "_law_pairs", defArgs s_Lpairs, defBody s_Lpairs, defScope s_Lpairs, [], []⟩
def d_Lcounterparts : He.DefD := ⟨("_law_counterparts", none), "_law_counterparts", "_law_counterparts", defArgs s_Lcounterparts, defBody s_Lcounterparts, defScope s_Lcounterparts, [], []⟩
def d_Lworks : He.DefD := ⟨("_law_works", none), "_law_works", "_law_works", defArgs s_Lworks, defBody s_Lworks, defScope s_Lworks, [], []⟩
def d_Ltold_rule : He.DefD := ⟨("_law_told_rule", none), "_law_told_rule", "_law_told_rule", defArgs s_Ltold_rule, defBody s_Ltold_rule, defScope s_Ltold_rule, [], []⟩
def d_Ldrawn_rule : He.DefD := ⟨("_law_drawn_rule", none), "_law_drawn_rule", "_law_drawn_rule", defArgs s_Ldrawn_rule, defBody s_Ldrawn_rule, defScope s_Ldrawn_rule, [], []⟩
def d_Lwith : He.DefD := ⟨("_law_with", none), "_law_with", "_law_with", defArgs s_Lwith, defBody s_Lwith, defScope s_Lwith, [], []⟩
def d_Lbent : He.DefD := ⟨("_law_bent", none), "_law_bent", "_law_bent", defArgs s_Lbent, defBody s_Lbent, defScope s_Lbent, [], []⟩
def d_law : He.DefD := ⟨("law", none), "law", "law", defArgs s_law, defBody s_law, defScope s_law, [], []⟩
def fnL : List He.DefD := [d_is_whole, d_is_system, d_is_state, d_is_command, d_states_of, d_step, d_pairs_from, d_counterparts_of, d_check_action, d_is_index, d_is_row, d_notes_of, d_least_notes, d_are_nexts, d_is_rule, d_works, d_accepts_rule, d_Lstream, d_Lnext, d_Lis_integer, d_Lequal, d_Lsystem, d_Lpairs, d_Lcounterparts, d_Lworks, d_Ltold_rule, d_Ldrawn_rule, d_Lwith, d_Lbent, d_law]
def faL : List He.Fa := [.glo "is_whole", .glo "is_system", .glo "is_state", .glo "is_command", .glo "states_of", .glo "step", .glo "pairs_from", .glo "counterparts_of", .glo "check_action", .glo "is_index", .glo "is_row", .glo "notes_of", .glo "least_notes", .glo "are_nexts", .glo "is_rule", .glo "works", .glo "accepts_rule", .glo "_law_stream", .glo "_law_next", .glo "_law_is_integer", .glo "_law_equal", .glo "_law_system", .glo "_law_pairs", .glo "_law_counterparts", .glo "_law_works", .glo "_law_told_rule", .glo "_law_drawn_rule", .glo "_law_with", .glo "_law_bent", .glo "law", .free "len", .free "range", .free "isinstance", .free "int", .free "bool", .free "tuple", .free "list", .free "str", .free "all", .free "max", .free "sorted", .free "abs", .free "enumerate", .int "MOST_STATES" 8, .int "MOST_COMMANDS" 4, .int "MOST_NOTES" 8]
def nmA : List PySem.Str := [("is_whole" : PySem.Str), ("is_system" : PySem.Str), ("is_state" : PySem.Str), ("is_command" : PySem.Str), ("states_of" : PySem.Str), ("step" : PySem.Str), ("pairs_from" : PySem.Str), ("counterparts_of" : PySem.Str), ("check_action" : PySem.Str), ("is_index" : PySem.Str), ("is_row" : PySem.Str), ("notes_of" : PySem.Str), ("least_notes" : PySem.Str), ("are_nexts" : PySem.Str), ("is_rule" : PySem.Str), ("works" : PySem.Str), ("accepts_rule" : PySem.Str)]
def nmB : List PySem.Str := [("_law_stream" : PySem.Str), ("_law_next" : PySem.Str), ("_law_is_integer" : PySem.Str), ("_law_equal" : PySem.Str), ("_law_system" : PySem.Str), ("_law_pairs" : PySem.Str), ("_law_counterparts" : PySem.Str), ("_law_works" : PySem.Str), ("_law_told_rule" : PySem.Str), ("_law_drawn_rule" : PySem.Str), ("_law_with" : PySem.Str), ("_law_bent" : PySem.Str), ("UndoError" : PySem.Str), ("BadValue" : PySem.Str), ("MOST_STATES" : PySem.Str), ("MOST_COMMANDS" : PySem.Str), ("MOST_NOTES" : PySem.Str)]
def nmL : List PySem.Str := nmA ++ nmB
abbrev rowR : PySem.W.OpenRow := PySem.W.OpenLaw.row PySem.Challenge.rw_undobystate_k17_whole_any_rule
abbrev hkL : PySem.W.Hook := He.hookD 4 faL fnL
def obL (s : PySem.W.SharedT) : He.AlD := He.obsDG 4 faL fnL (HandSHeadRun.getT s)
theorem obL_eq (s : PySem.W.SharedT) : obL s = hkL.obs s.abs := He.obsDG_eq (HandSHeadRun.getT_eq s)
theorem runL (w : World) : HandSHeadRun.RunEq rowR (PySem.W.view rowR.prog [39]) hkL obL 4000 nmL w := by
  intro os
  kernel_rfl
end Ub
set_option maxHeartbeats 0
/-! UbEnd: the facts of the head, the end. -/
namespace Ub
open PySem PySem.Spec PyProof.Rows L2
theorem all_cal {P : Program} {w : World} {K : PySem.W.Frag} {h base : Heap} {mg : Str → Option Value} (X : K.In h) (G : h.Ns mainGlobals mg) (c : He.SaysD faL fnL K) : Cal P w K mg base "law" 6 ["_law_script"] (spLaw K) := by
  have D_is_whole : DefAt K mg "is_whole" s_is_whole := let ⟨fd, F⟩ := c.def_ 0 (d := d_is_whole) rfl; ⟨_, fd, F, He.glo_ok X G (c.fact 0 (f := .glo "is_whole") rfl)⟩
  have D_is_index : DefAt K mg "is_index" s_is_index := let ⟨fd, F⟩ := c.def_ 9 (d := d_is_index) rfl; ⟨_, fd, F, He.glo_ok X G (c.fact 9 (f := .glo "is_index") rfl)⟩
  have D_is_row : DefAt K mg "is_row" s_is_row := let ⟨fd, F⟩ := c.def_ 10 (d := d_is_row) rfl; ⟨_, fd, F, He.glo_ok X G (c.fact 10 (f := .glo "is_row") rfl)⟩
  have D_step : DefAt K mg "step" s_step := let ⟨fd, F⟩ := c.def_ 5 (d := d_step) rfl; ⟨_, fd, F, He.glo_ok X G (c.fact 5 (f := .glo "step") rfl)⟩
  have D_is_state : DefAt K mg "is_state" s_is_state := let ⟨fd, F⟩ := c.def_ 2 (d := d_is_state) rfl; ⟨_, fd, F, He.glo_ok X G (c.fact 2 (f := .glo "is_state") rfl)⟩
  have D_is_command : DefAt K mg "is_command" s_is_command := let ⟨fd, F⟩ := c.def_ 3 (d := d_is_command) rfl; ⟨_, fd, F, He.glo_ok X G (c.fact 3 (f := .glo "is_command") rfl)⟩
  have D_states_of : DefAt K mg "states_of" s_states_of := let ⟨fd, F⟩ := c.def_ 4 (d := d_states_of) rfl; ⟨_, fd, F, He.glo_ok X G (c.fact 4 (f := .glo "states_of") rfl)⟩
  have D_is_system : DefAt K mg "is_system" s_is_system := let ⟨fd, F⟩ := c.def_ 1 (d := d_is_system) rfl; ⟨_, fd, F, He.glo_ok X G (c.fact 1 (f := .glo "is_system") rfl)⟩
  have D_check_action : DefAt K mg "check_action" s_check_action := let ⟨fd, F⟩ := c.def_ 8 (d := d_check_action) rfl; ⟨_, fd, F, He.glo_ok X G (c.fact 8 (f := .glo "check_action") rfl)⟩
  have D_are_nexts : DefAt K mg "are_nexts" s_are_nexts := let ⟨fd, F⟩ := c.def_ 13 (d := d_are_nexts) rfl; ⟨_, fd, F, He.glo_ok X G (c.fact 13 (f := .glo "are_nexts") rfl)⟩
  have D_is_rule : DefAt K mg "is_rule" s_is_rule := let ⟨fd, F⟩ := c.def_ 14 (d := d_is_rule) rfl; ⟨_, fd, F, He.glo_ok X G (c.fact 14 (f := .glo "is_rule") rfl)⟩
  have D_works : DefAt K mg "works" s_works := let ⟨fd, F⟩ := c.def_ 15 (d := d_works) rfl; ⟨_, fd, F, He.glo_ok X G (c.fact 15 (f := .glo "works") rfl)⟩
  have D_accepts_rule : DefAt K mg "accepts_rule" s_accepts_rule := let ⟨fd, F⟩ := c.def_ 16 (d := d_accepts_rule) rfl; ⟨_, fd, F, He.glo_ok X G (c.fact 16 (f := .glo "accepts_rule") rfl)⟩
  have D_pairs_from : DefAt K mg "pairs_from" s_pairs_from := let ⟨fd, F⟩ := c.def_ 6 (d := d_pairs_from) rfl; ⟨_, fd, F, He.glo_ok X G (c.fact 6 (f := .glo "pairs_from") rfl)⟩
  have D_counterparts_of : DefAt K mg "counterparts_of" s_counterparts_of := let ⟨fd, F⟩ := c.def_ 7 (d := d_counterparts_of) rfl; ⟨_, fd, F, He.glo_ok X G (c.fact 7 (f := .glo "counterparts_of") rfl)⟩
  have D_notes_of : DefAt K mg "notes_of" s_notes_of := let ⟨fd, F⟩ := c.def_ 11 (d := d_notes_of) rfl; ⟨_, fd, F, He.glo_ok X G (c.fact 11 (f := .glo "notes_of") rfl)⟩
  have D_least_notes : DefAt K mg "least_notes" s_least_notes := let ⟨fd, F⟩ := c.def_ 12 (d := d_least_notes) rfl; ⟨_, fd, F, He.glo_ok X G (c.fact 12 (f := .glo "least_notes") rfl)⟩
  have D_Lstream : DefAt K mg "_law_stream" s_Lstream := let ⟨fd, F⟩ := c.def_ 17 (d := d_Lstream) rfl; ⟨_, fd, F, He.glo_ok X G (c.fact 17 (f := .glo "_law_stream") rfl)⟩
  have D_Lnext : DefAt K mg "_law_next" s_Lnext := let ⟨fd, F⟩ := c.def_ 18 (d := d_Lnext) rfl; ⟨_, fd, F, He.glo_ok X G (c.fact 18 (f := .glo "_law_next") rfl)⟩
  have D_Lequal : DefAt K mg "_law_equal" s_Lequal := let ⟨fd, F⟩ := c.def_ 20 (d := d_Lequal) rfl; ⟨_, fd, F, He.glo_ok X G (c.fact 20 (f := .glo "_law_equal") rfl)⟩
  have D_Lsystem : DefAt K mg "_law_system" s_Lsystem := let ⟨fd, F⟩ := c.def_ 21 (d := d_Lsystem) rfl; ⟨_, fd, F, He.glo_ok X G (c.fact 21 (f := .glo "_law_system") rfl)⟩
  have D_Lpairs : DefAt K mg "_law_pairs" s_Lpairs := let ⟨fd, F⟩ := c.def_ 22 (d := d_Lpairs) rfl; ⟨_, fd, F, He.glo_ok X G (c.fact 22 (f := .glo "_law_pairs") rfl)⟩
  have D_Lcounterparts : DefAt K mg "_law_counterparts" s_Lcounterparts := let ⟨fd, F⟩ := c.def_ 23 (d := d_Lcounterparts) rfl; ⟨_, fd, F, He.glo_ok X G (c.fact 23 (f := .glo "_law_counterparts") rfl)⟩
  have D_Lworks : DefAt K mg "_law_works" s_Lworks := let ⟨fd, F⟩ := c.def_ 24 (d := d_Lworks) rfl; ⟨_, fd, F, He.glo_ok X G (c.fact 24 (f := .glo "_law_works") rfl)⟩
  have D_Ltold_rule : DefAt K mg "_law_told_rule" s_Ltold_rule := let ⟨fd, F⟩ := c.def_ 25 (d := d_Ltold_rule) rfl; ⟨_, fd, F, He.glo_ok X G (c.fact 25 (f := .glo "_law_told_rule") rfl)⟩
  have D_Ldrawn_rule : DefAt K mg "_law_drawn_rule" s_Ldrawn_rule := let ⟨fd, F⟩ := c.def_ 26 (d := d_Ldrawn_rule) rfl; ⟨_, fd, F, He.glo_ok X G (c.fact 26 (f := .glo "_law_drawn_rule") rfl)⟩
  have D_Lwith : DefAt K mg "_law_with" s_Lwith := let ⟨fd, F⟩ := c.def_ 27 (d := d_Lwith) rfl; ⟨_, fd, F, He.glo_ok X G (c.fact 27 (f := .glo "_law_with") rfl)⟩
  have D_Lbent : DefAt K mg "_law_bent" s_Lbent := let ⟨fd, F⟩ := c.def_ 28 (d := d_Lbent) rfl; ⟨_, fd, F, He.glo_ok X G (c.fact 28 (f := .glo "_law_bent") rfl)⟩
  have D_law : DefAt K mg "law" s_law := let ⟨fd, F⟩ := c.def_ 29 (d := d_law) rfl; ⟨_, fd, F, He.glo_ok X G (c.fact 29 (f := .glo "law") rfl)⟩
  have B : Bi mg := ⟨He.free_ok X G (c.fact 30 (f := .free "len") rfl), He.free_ok X G (c.fact 31 (f := .free "range") rfl), He.free_ok X G (c.fact 32 (f := .free "isinstance") rfl), He.free_ok X G (c.fact 33 (f := .free "int") rfl), He.free_ok X G (c.fact 34 (f := .free "bool") rfl), He.free_ok X G (c.fact 35 (f := .free "tuple") rfl), He.free_ok X G (c.fact 36 (f := .free "list") rfl), He.free_ok X G (c.fact 37 (f := .free "str") rfl), He.free_ok X G (c.fact 38 (f := .free "all") rfl), He.free_ok X G (c.fact 39 (f := .free "max") rfl), He.free_ok X G (c.fact 40 (f := .free "sorted") rfl), He.free_ok X G (c.fact 41 (f := .free "abs") rfl), He.free_ok X G (c.fact 42 (f := .free "enumerate") rfl), He.int_ok X G (c.fact 43 (f := .int "MOST_STATES" 8) rfl), He.int_ok X G (c.fact 44 (f := .int "MOST_COMMANDS" 4) rfl), He.int_ok X G (c.fact 45 (f := .int "MOST_NOTES" 8) rfl)⟩
  have C_is_whole := f_is_whole (P := P) (w := w) (base := base) D_is_whole B
  have C_is_index := f_is_index (P := P) (w := w) (base := base) D_is_index B
  have C_is_row := f_is_row (P := P) (w := w) (base := base) D_is_row B
  have C_step := f_step (P := P) (w := w) (base := base) D_step B
  have C_is_state := f_is_state (P := P) (w := w) (base := base) D_is_state B C_is_whole
  have C_is_command := f_is_command (P := P) (w := w) (base := base) D_is_command B C_is_whole
  have C_states_of := f_states_of (P := P) (w := w) (base := base) D_states_of B
  have C_is_system := f_is_system (P := P) (w := w) (base := base) D_is_system B C_is_whole
  have C_check_action := f_check_action (P := P) (w := w) (base := base) D_check_action B C_is_system C_is_state C_is_command
  have C_are_nexts := f_are_nexts (P := P) (w := w) (base := base) D_are_nexts B C_is_row C_is_index
  have C_is_rule := f_is_rule (P := P) (w := w) (base := base) D_is_rule B C_is_row C_is_index C_are_nexts
  have C_works := f_works (P := P) (w := w) (base := base) D_works B C_step
  have C_accepts_rule := f_accepts_rule (P := P) (w := w) (base := base) D_accepts_rule B C_check_action C_is_rule C_works
  have C_pairs_from := f_pairs_from (P := P) (w := w) (base := base) D_pairs_from B C_step
  have C_counterparts_of := f_counterparts_of (P := P) (w := w) (base := base) D_counterparts_of B C_pairs_from C_states_of
  have C_notes_of := f_notes_of (P := P) (w := w) (base := base) D_notes_of B C_counterparts_of C_step
  have C_least_notes := f_least_notes (P := P) (w := w) (base := base) D_least_notes B C_check_action C_notes_of
  have C_Lstream := f_Lstream (P := P) (w := w) (base := base) D_Lstream B
  have C_Lnext := f_Lnext (P := P) (w := w) (base := base) D_Lnext B
  have C_Lequal := f_Lequal (P := P) (w := w) (base := base) D_Lequal B
  have C_Lsystem := f_Lsystem (P := P) (w := w) (base := base) D_Lsystem B C_Lnext
  have C_Lpairs := f_Lpairs (P := P) (w := w) (base := base) D_Lpairs B
  have C_Lcounterparts := f_Lcounterparts (P := P) (w := w) (base := base) D_Lcounterparts B C_Lpairs
  have C_Lworks := f_Lworks (P := P) (w := w) (base := base) D_Lworks B
  have C_Ltold_rule := f_Ltold (P := P) (w := w) (base := base) D_Ltold_rule B C_Lcounterparts
  have C_Ldrawn_rule := f_Ldrawn_rule (P := P) (w := w) (base := base) D_Ldrawn_rule B C_Lnext
  have C_Lwith := f_Lwith (P := P) (w := w) (base := base) D_Lwith B
  have C_Lbent := f_Lbent (P := P) (w := w) (base := base) D_Lbent B C_Lnext C_Lwith
  exact f_law D_law B C_Lstream C_Lsystem C_Lnext C_Ltold_rule C_least_notes C_Lbent C_Ldrawn_rule C_Lworks C_Lequal C_accepts_rule
theorem facts {P : Program} {w : World} {K : PySem.W.Frag} {h : Heap} {mg : Str → Option Value} {f : Addr} (X : K.In h) (G : h.Ns mainGlobals mg) (hfa : mg ("law" : Str) = some (.ref f)) (c : He.SaysD faL fnL K) :
    ∃ fd : FuncData, (∀ (s : Shared) (v : Value), BindsTo s fd ⟨[v], []⟩ [("_law_script", v)]) ∧ ∀ base : Heap, K.In base → base.Ns mainGlobals mg → FnOk P w K mg base CX0 6 f fd ["_law_script"] (spLaw K) := by
  obtain ⟨fd, F⟩ := c.def_ 29 (d := d_law) rfl
  have e := hfa.symm.trans (He.glo_ok X G (c.fact 29 (f := .glo "law") rfl))
  cases e
  have b := FunD.bindsA (ps := ["_law_script"]) F fun _ _ _ _ _ _ us hl => match us, hl with | [_], _ => rfl
  refine ⟨fd, fun s v => b s [v] rfl, fun base _ _ => ?_⟩
  obtain ⟨f', fd', F', hm', _, _, oc, od, osl, lk⟩ := (all_cal (P := P) (w := w) (base := base) X G c).ex
  have e2 := hfa.symm.trans hm'
  cases e2
  obtain ⟨oc2, od2, _, _, _, _, _, _, _, osl2, _, lk2, _⟩ := F.ex
  have e3 := lk.symm.trans lk2
  cases e3
  exact F'
end Ub
open PySem PySem.W PySem.Calls PyProof.Rows
theorem PySem.Challenge.cw_undobystate_k17_whole_any_rule_holds : PySem.Challenge.rw_undobystate_k17_whole_any_rule.Holds := by
  w_on; o_law
  refine HandSHeadRun.head_any (r := OpenLaw.row PySem.Challenge.rw_undobystate_k17_whole_any_rule) (q := view (OpenLaw.row PySem.Challenge.rw_undobystate_k17_whole_any_rule).prog [39]) (H := Ub.hkL) (ob := Ub.obL) (M := 4000) (loose := Ub.nmL) (d := HandSHeadRun.topDef (OpenLaw.row PySem.Challenge.rw_undobystate_k17_whole_any_rule).prog 39) (kwd := []) Ub.obL_eq
    (by kernel_rfl) (fun s => by kernel_rfl) Ub.runL (by kernel_rfl) (by kernel_rfl) (by kernel_rfl) (by rfl) (by first | assumption | decide +kernel) (by decide +kernel) ⟨rfl, rfl, rfl, rfl, rfl, by decide +kernel⟩ ?hw ?hc
  case hw => w_witness2
  case hc =>
    refine L2.walk_ofE (l := PySem.Challenge.rw_undobystate_k17_whole_any_rule) (n := 63) (k := 6) (x := "_law_script") (CX := L2.CX0) rfl (by decide) (by kernel_rfl) ⟨by decide, by decide, by decide⟩ ?F (fun _ _ _ _ z => z)
    intro w mg fa h Y G hmg0
    obtain ⟨K, KX, c⟩ := Y
    have hmg : mg ("law" : PySem.Str) = some (.ref fa) := by
      have e : (HandSHeadRun.topDef (OpenLaw.row PySem.Challenge.rw_undobystate_k17_whole_any_rule).prog 39).name = ("law" : PySem.Str) := by kernel_rfl
      rw [← e]
      exact hmg0
    obtain ⟨fd, hb, hF⟩ := Ub.facts (P := (PySem.Challenge.rw_undobystate_k17_whole_any_rule).prog) (w := w) KX G hmg c
    exact ⟨K, fd, Ub.spLaw K, KX, hb, fun H a ns hl _ hS => ⟨a, ns, rfl, hS, hl, fun _ => rfl⟩, hF⟩
