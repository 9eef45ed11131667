import PyProof.Rows.All
import Wide.All
import OpenK.AllK
import Wide.FinOn
import Open.SpecLaws
import KE.OsGo
import KE.DataMinMax
import HandS.ForSpec
import HandS.ForMost
import HandS.More
import PySem.Challenge.RW_treebridgeworks_s01_answers
set_option Elab.async false
set_option linter.all false
set_option maxRecDepth 100000
section
set_option autoImplicit false
namespace TB
open Su200
/-! ### the network: well-formed, neighbours -/
structure WF (n : Network) : Prop where
  idsLe : n.bridgeIds.length ≤ 7
  linksLe : n.links.length ≤ 12
  nodup : n.bridgeIds.Nodup
  ends : ∀ l ∈ n.links, l.endA < n.bridgeIds.length ∧ l.endB < n.bridgeIds.length ∧ l.endA ≠ l.endB ∧ 1 ≤ l.cost ∧ l.cost ≤ 99
/-- link i goes from v to u and is up -/
def Nb (n : Network) (v i u : Nat) : Prop := ∃ l, n.links[i]? = some l ∧ l.up = true ∧ ((l.endA = v ∧ u = l.endB) ∨ (l.endA ≠ v ∧ l.endB = v ∧ u = l.endA))
theorem mem_neighbors {n : Network} {v i u : Nat} : (i, u) ∈ neighbors n v ↔ Nb n v i u := by
  unfold neighbors Nb
  simp only [List.mem_filterMap, Prod.exists]
  constructor
  · rintro ⟨l, j, hm, h⟩
    have hj : n.links[j]? = some l := by
      have := List.mem_zipIdx_iff_getElem?.mp hm
      simpa using this
    cases hu : l.up with
    | false => rw [hu] at h; simp at h
    | true =>
      rw [hu] at h
      simp only [Bool.true_eq_false, if_false] at h
      by_cases ha : l.endA = v
      · rw [if_pos ha] at h
        simp only [Option.some.injEq, Prod.mk.injEq] at h
        obtain ⟨rfl, rfl⟩ := h
        exact ⟨l, hj, hu, .inl ⟨ha, rfl⟩⟩
      · rw [if_neg ha] at h
        by_cases hb : l.endB = v
        · rw [if_pos hb] at h
          simp only [Option.some.injEq, Prod.mk.injEq] at h
          obtain ⟨rfl, rfl⟩ := h
          exact ⟨l, hj, hu, .inr ⟨ha, hb, rfl⟩⟩
        · rw [if_neg hb] at h
          cases h
  · rintro ⟨l, hj, hu, h⟩
    refine ⟨l, i, List.mem_zipIdx_iff_getElem?.mpr (by simpa using hj), ?_⟩
    rw [hu]
    simp only [Bool.true_eq_false, if_false]
    rcases h with ⟨ha, rfl⟩ | ⟨ha, hb, rfl⟩
    · rw [if_pos ha]
    · rw [if_neg ha, if_pos hb]
theorem Nb.lt {n : Network} (W : WF n) {v i u : Nat} (h : Nb n v i u) : v < n.bridgeIds.length ∧ u < n.bridgeIds.length ∧ i < n.links.length ∧ v ≠ u := by
  obtain ⟨l, hi, _, h⟩ := h
  have hm := List.mem_of_getElem? hi
  have hl := (List.getElem?_eq_some_iff.mp hi).1
  obtain ⟨h1, h2, h3, _⟩ := W.ends l hm
  rcases h with ⟨rfl, rfl⟩ | ⟨_, rfl, rfl⟩
  · exact ⟨h1, h2, hl, h3⟩
  · exact ⟨h2, h1, hl, Ne.symm h3⟩
theorem Nb.symm {n : Network} (W : WF n) {v i u : Nat} (h : Nb n v i u) : Nb n u i v := by
  obtain ⟨l, hi, hu, h⟩ := h
  have hm := List.mem_of_getElem? hi
  obtain ⟨_, _, h3, _⟩ := W.ends l hm
  refine ⟨l, hi, hu, ?_⟩
  rcases h with ⟨rfl, rfl⟩ | ⟨_, rfl, rfl⟩
  · exact .inr ⟨h3, rfl, rfl⟩
  · exact .inl ⟨rfl, rfl⟩
theorem Nb.fn {n : Network} {v i u u' : Nat} (h : Nb n v i u) (h' : Nb n v i u') : u = u' := by
  obtain ⟨l, hi, _, h⟩ := h
  obtain ⟨l', hi', _, h'⟩ := h'
  rw [hi] at hi'
  cases hi'
  rcases h with ⟨ha, rfl⟩ | ⟨ha, hb, rfl⟩ <;> rcases h' with ⟨ha', rfl⟩ | ⟨ha', hb', rfl⟩ <;> first | rfl | exact absurd ha ha' | exact absurd ha' ha
/-- the two ends of a link -/
theorem Nb.ends {n : Network} (W : WF n) {v i u w x : Nat} (h : Nb n v i u) (h' : Nb n w i x) : (w = v ∧ x = u) ∨ (w = u ∧ x = v) := by
  obtain ⟨l, hi, _, h⟩ := h
  obtain ⟨l', hi', _, h'⟩ := h'
  rw [hi] at hi'
  cases hi'
  rcases h with ⟨ha, rfl⟩ | ⟨ha, hb, rfl⟩ <;> rcases h' with ⟨ha', rfl⟩ | ⟨ha', hb', rfl⟩ <;> omega
theorem Nb.cost {n : Network} (W : WF n) {v i u : Nat} (h : Nb n v i u) : 1 ≤ (link n i).cost := by
  obtain ⟨l, hi, _, _⟩ := h
  have : link n i = l := by unfold link; rw [List.getD_eq_getElem?_getD, hi]; rfl
  rw [this]
  exact (W.ends l (List.mem_of_getElem? hi)).2.2.2.1
/-! ### comparing -/
def le2 (x y : RootPath) : Prop := x.rootId < y.rootId ∨ (x.rootId = y.rootId ∧ x.cost ≤ y.cost)
theorem le_of_not_better {x y : RootPath} (h : isBetter x y = false) : le2 y x := by
  unfold isBetter at h
  unfold le2
  simp only [Bool.or_eq_false_iff, Bool.and_eq_false_iff, decide_eq_false_iff_not, beq_eq_false_iff_ne, ne_eq] at h
  omega
theorem le_of_better {x y : RootPath} (h : isBetter x y = true) : le2 x y := by
  unfold isBetter at h
  unfold le2
  simp only [Bool.or_eq_true, Bool.and_eq_true, decide_eq_true_eq, beq_iff_eq] at h
  omega
theorem le2.trans {x y z : RootPath} (a : le2 x y) (b : le2 y z) : le2 x z := by unfold le2 at *; omega
theorem le2.refl (x : RootPath) : le2 x x := by unfold le2; omega
/-- what the neighbour behind link y.1 offers -/
def offer (n : Network) (paths : List RootPath) (y : Nat × Nat) : RootPath :=
  ⟨(paths.getD y.2 (ownPath n y.2)).rootId, (paths.getD y.2 (ownPath n y.2)).cost + (link n y.1).cost, bridgeId n y.2, y.1⟩
def better (o x : RootPath) : RootPath := if isBetter o x then o else x
theorem nextPath_eq (n : Network) (paths : List RootPath) (v : Nat) : nextPath n paths v = (neighbors n v).foldl (fun x y => better (offer n paths y) x) (ownPath n v) := rfl
theorem fold_better {α : Type} (f : α → RootPath) : ∀ (l : List α) (x : RootPath), let r := l.foldl (fun x y => better (f y) x) x
    (r = x ∨ ∃ y ∈ l, r = f y) ∧ le2 r x ∧ ∀ y ∈ l, le2 r (f y)
  | [], x => ⟨.inl rfl, le2.refl x, fun y h => by cases h⟩
  | a :: l, x => by
    have ih := fold_better f l (better (f a) x)
    simp only [List.foldl_cons]
    obtain ⟨h1, h2, h3⟩ := ih
    by_cases hb : isBetter (f a) x = true
    · have e : better (f a) x = f a := by unfold better; rw [if_pos hb]
      rw [e] at h1 h2 h3 ⊢
      refine ⟨?_, h2.trans (le_of_better hb), ?_⟩
      · rcases h1 with h1 | ⟨y, hy, h1⟩
        · exact .inr ⟨a, List.mem_cons_self, h1⟩
        · exact .inr ⟨y, List.mem_cons_of_mem _ hy, h1⟩
      · intro y hy
        rcases List.mem_cons.mp hy with rfl | hy
        · exact h2
        · exact h3 y hy
    · have hb' : isBetter (f a) x = false := by cases q : isBetter (f a) x with | true => exact absurd q hb | false => rfl
      have e : better (f a) x = x := by unfold better; rw [hb']; rfl
      rw [e] at h1 h2 h3 ⊢
      refine ⟨?_, h2, ?_⟩
      · rcases h1 with h1 | ⟨y, hy, h1⟩
        · exact .inl h1
        · exact .inr ⟨y, List.mem_cons_of_mem _ hy, h1⟩
      · intro y hy
        rcases List.mem_cons.mp hy with rfl | hy
        · exact h2.trans (le_of_not_better hb')
        · exact h3 y hy
/-! ### rounds -/
theorem rounds_succ (n : Network) : ∀ (k : Nat) (p : List RootPath), rounds n (k + 1) p = round n (rounds n k p)
  | 0, _ => rfl
  | k + 1, p => by
    show rounds n (k + 1) (round n p) = round n (rounds n k (round n p))
    exact rounds_succ n k (round n p)
/-- the root paths after k rounds -/
def pk (n : Network) (k : Nat) : List RootPath := rounds n k (initialPaths n)
theorem pk_zero (n : Network) : pk n 0 = initialPaths n := rfl
theorem pk_succ (n : Network) (k : Nat) : pk n (k + 1) = round n (pk n k) := rounds_succ n k _
theorem pk_length (n : Network) (k : Nat) : (pk n k).length = n.bridgeIds.length := by
  cases k with
  | zero => simp [pk_zero, initialPaths, bridgeCount]
  | succ k => simp [pk_succ, round, bridgeCount]
def pa (n : Network) (k v : Nat) : RootPath := (pk n k).getD v (ownPath n v)
theorem pa_zero {n : Network} {v : Nat} (hv : v < n.bridgeIds.length) : pa n 0 v = ownPath n v := by
  unfold pa
  rw [pk_zero, initialPaths, List.getD_eq_getElem?_getD, List.getElem?_map, List.getElem?_range (show v < bridgeCount n from hv)]
  rfl
theorem pa_succ {n : Network} {k v : Nat} (hv : v < n.bridgeIds.length) : pa n (k + 1) v = nextPath n (pk n k) v := by
  unfold pa
  rw [pk_succ, round, List.getD_eq_getElem?_getD, List.getElem?_map, List.getElem?_range (show v < bridgeCount n from hv)]
  rfl
theorem offer_pk (n : Network) (k : Nat) (i u : Nat) : offer n (pk n k) (i, u) = ⟨(pa n k u).rootId, (pa n k u).cost + (link n i).cost, bridgeId n u, i⟩ := rfl
/-- a path after a round: its own one or what a neighbour offers -/
theorem pa_step {n : Network} {k v : Nat} (hv : v < n.bridgeIds.length) : (pa n (k + 1) v = ownPath n v ∨ ∃ i u, Nb n v i u ∧ pa n (k + 1) v = ⟨(pa n k u).rootId, (pa n k u).cost + (link n i).cost, bridgeId n u, i⟩) := by
  have h := (fold_better (offer n (pk n k)) (neighbors n v) (ownPath n v)).1
  rw [pa_succ hv, nextPath_eq]
  rcases h with h | ⟨⟨i, u⟩, hy, h⟩
  · exact .inl h
  · exact .inr ⟨i, u, mem_neighbors.mp hy, h⟩
theorem pa_own {n : Network} {k v : Nat} (hv : v < n.bridgeIds.length) : le2 (pa n k v) (ownPath n v) := by
  cases k with
  | zero => rw [pa_zero hv]; exact le2.refl _
  | succ k =>
    rw [pa_succ hv, nextPath_eq]
    exact (fold_better (offer n (pk n k)) (neighbors n v) (ownPath n v)).2.1
theorem pa_offer {n : Network} {k v i u : Nat} (W : WF n) (h : Nb n v i u) : le2 (pa n (k + 1) v) ⟨(pa n k u).rootId, (pa n k u).cost + (link n i).cost, bridgeId n u, i⟩ := by
  rw [pa_succ (h.lt W).1, nextPath_eq]
  exact (fold_better (offer n (pk n k)) (neighbors n v) (ownPath n v)).2.2 (i, u) (mem_neighbors.mpr h)
/-- a round makes no path worse -/
theorem pa_mono {n : Network} (W : WF n) : ∀ (k : Nat) {v : Nat}, v < n.bridgeIds.length → le2 (pa n (k + 1) v) (pa n k v)
  | 0, v, hv => by rw [pa_zero hv]; exact pa_own hv
  | k + 1, v, hv => by
    rcases pa_step (k := k) hv with h | ⟨i, u, hn, h⟩
    · rw [h]; exact pa_own hv
    · have a := pa_offer (k := k + 1) W hn
      have b := pa_mono W k (hn.lt W).2.1
      rw [h]
      unfold le2 at *
      simp only at *
      omega
theorem pa_mono_le {n : Network} (W : WF n) {v : Nat} (hv : v < n.bridgeIds.length) {j k : Nat} (h : j ≤ k) : le2 (pa n k v) (pa n j v) := by
  induction h with
  | refl => exact le2.refl _
  | step _ ih => exact (pa_mono W _ hv).trans ih
/-- a path that gets better in round k has come over k + 1 different bridges -/
theorem chain {n : Network} (W : WF n) : ∀ (k : Nat) {v : Nat}, v < n.bridgeIds.length → (∀ j, k = j + 1 → ¬ le2 (pa n j v) (pa n k v)) →
    ∃ l : List Nat, l.length = k + 1 ∧ l.Nodup ∧ (∀ x ∈ l, x < n.bridgeIds.length) ∧ ∀ x ∈ l, ∃ j, j ≤ k ∧ le2 (pa n j x) (pa n k v)
  | 0, v, hv, _ => ⟨[v], rfl, by simp, by simpa using hv, fun x hx => by rw [List.mem_singleton] at hx; subst hx; exact ⟨0, Nat.le_refl _, le2.refl _⟩⟩
  | k + 1, v, hv, hc => by
    have hc := hc k rfl
    rcases pa_step (k := k) hv with h | ⟨i, u, hn, h⟩
    · rw [h] at hc
      exact absurd (pa_own hv) hc
    · have hcost := hn.cost W
      have hu := (hn.lt W).2.1
      have hcu : ∀ j, k = j + 1 → ¬ le2 (pa n j u) (pa n k u) := by
        rintro j rfl q
        have a := pa_offer (k := j) W hn
        rw [h] at hc
        unfold le2 at *
        simp only at *
        omega
      obtain ⟨l, h1, h2, h3, h4⟩ := chain W k hu hcu
      refine ⟨v :: l, by simp [h1], List.nodup_cons.mpr ⟨fun hm => ?_, h2⟩, ?_, ?_⟩
      · obtain ⟨j, hj, q⟩ := h4 v hm
        have a := pa_mono_le W hv (Nat.le_succ_of_le hj)
        rw [h] at a
        unfold le2 at *
        simp only at *
        omega
      · intro x hx
        rcases List.mem_cons.mp hx with rfl | hx
        · exact hv
        · exact h3 x hx
      · intro x hx
        rcases List.mem_cons.mp hx with rfl | hx
        · exact ⟨k + 1, Nat.le_refl _, le2.refl _⟩
        · obtain ⟨j, hj, q⟩ := h4 x hx
          refine ⟨j, Nat.le_succ_of_le hj, ?_⟩
          rw [h]
          unfold le2 at *
          simp only at *
          omega
theorem nodup_lt {l : List Nat} {m : Nat} (h : l.Nodup) (hl : ∀ x ∈ l, x < m) : l.length ≤ m := by
  have := h.length_le_of_subset (l₂ := List.range m) (fun x hx => List.mem_range.mpr (hl x hx))
  simpa using this
/-! ### the converged paths -/
def rt (n : Network) (v : Nat) : Nat := (pa n n.bridgeIds.length v).rootId
def cst (n : Network) (v : Nat) : Nat := (pa n n.bridgeIds.length v).cost
def vi (n : Network) (v : Nat) : Nat := (pa n n.bridgeIds.length v).via
theorem settled {n : Network} (W : WF n) {m v : Nat} (hm : n.bridgeIds.length = m + 1) (hv : v < n.bridgeIds.length) : (pa n (m + 1) v).rootId = (pa n m v).rootId ∧ (pa n (m + 1) v).cost = (pa n m v).cost := by
  have h1 := pa_mono W m hv
  by_cases hc : le2 (pa n m v) (pa n (m + 1) v)
  · unfold le2 at *
    omega
  · obtain ⟨l, a, b, c, _⟩ := chain W (m + 1) hv (fun j e => by cases e; exact hc)
    have := nodup_lt b c
    omega
theorem up_link {n : Network} (W : WF n) {v : Nat} (hv : v < n.bridgeIds.length) (h : vi n v < n.links.length) : ∃ u, Nb n v (vi n v) u ∧ rt n u = rt n v ∧ cst n u < cst n v := by
  obtain ⟨m, hm⟩ : ∃ m, n.bridgeIds.length = m + 1 := ⟨n.bridgeIds.length - 1, by omega⟩
  unfold vi rt cst at *
  rw [hm] at h ⊢
  rcases pa_step (k := m) hv with e | ⟨i, u, hn, e⟩
  · rw [e] at h
    exact absurd h (Nat.lt_irrefl _)
  · have s := settled W hm (hn.lt W).2.1
    have c := hn.cost W
    refine ⟨u, ?_, ?_, ?_⟩
    · rw [e]; exact hn
    · rw [s.1, e]
    · rw [s.2, e]; simp only; omega
theorem no_link {n : Network} (W : WF n) {v : Nat} (hv : v < n.bridgeIds.length) (h : ¬ vi n v < n.links.length) : rt n v = bridgeId n v ∧ cst n v = 0 := by
  obtain ⟨m, hm⟩ : ∃ m, n.bridgeIds.length = m + 1 := ⟨n.bridgeIds.length - 1, by omega⟩
  unfold vi rt cst at *
  rw [hm] at h ⊢
  rcases pa_step (k := m) hv with e | ⟨i, u, hn, e⟩
  · rw [e]; exact ⟨rfl, rfl⟩
  · rw [e] at h
    exact absurd (hn.lt W).2.2.1 h
theorem rt_nb {n : Network} (W : WF n) {v i u : Nat} (h : Nb n v i u) : rt n v = rt n u := by
  obtain ⟨m, hm⟩ : ∃ m, n.bridgeIds.length = m + 1 := ⟨n.bridgeIds.length - 1, by have := (h.lt W).1; omega⟩
  unfold rt
  have s1 := settled W hm (h.lt W).1
  have s2 := settled W hm (h.lt W).2.1
  have a := pa_offer (k := m) W h
  have b := pa_offer (k := m) W (h.symm W)
  rw [hm]
  unfold le2 at a b
  simp only at a b
  omega
theorem convergedPaths_eq (n : Network) : convergedPaths n = pk n n.bridgeIds.length := rfl
theorem isTreeLink_iff {n : Network} {i : Nat} : isTreeLink n i = true ↔ i < n.links.length ∧ ∃ v, v < n.bridgeIds.length ∧ vi n v = i := by
  unfold isTreeLink
  rw [List.any_eq_true, convergedPaths_eq]
  constructor
  · rintro ⟨b, hb, h⟩
    rw [Bool.and_eq_true, beq_iff_eq, decide_eq_true_eq] at h
    obtain ⟨v, hv, e⟩ := List.getElem_of_mem hb
    rw [pk_length] at hv
    refine ⟨h.2, v, hv, ?_⟩
    unfold vi pa
    rw [List.getD_eq_getElem?_getD, List.getElem?_eq_getElem (by rw [pk_length]; exact hv), e]
    exact h.1
  · rintro ⟨hi, v, hv, h⟩
    refine ⟨pa n n.bridgeIds.length v, ?_, ?_⟩
    · unfold pa
      rw [List.getD_eq_getElem?_getD, List.getElem?_eq_getElem (by rw [pk_length]; exact hv)]
      exact List.getElem_mem _
    · rw [Bool.and_eq_true, beq_iff_eq, decide_eq_true_eq]
      exact ⟨h, hi⟩
/-- a tree link is up -/
theorem tree_nb {n : Network} (W : WF n) {i : Nat} (h : isTreeLink n i = true) : ∃ v u, v < n.bridgeIds.length ∧ Nb n v i u ∧ vi n v = i := by
  obtain ⟨hi, v, hv, rfl⟩ := isTreeLink_iff.mp h
  obtain ⟨u, hu, _⟩ := up_link W hv hi
  exact ⟨v, u, hv, hu, rfl⟩
/-- u is next to v over a tree link -/
def TreeE (n : Network) (v u : Nat) : Prop := ∃ i, Nb n v i u ∧ isTreeLink n i = true
theorem mem_treeNeighbors {n : Network} {v i u : Nat} : (i, u) ∈ treeNeighbors n v ↔ Nb n v i u ∧ isTreeLink n i = true := by
  unfold treeNeighbors
  rw [List.mem_filter, mem_neighbors]
theorem TreeE.symm {n : Network} (W : WF n) {v u : Nat} (h : TreeE n v u) : TreeE n u v := by
  obtain ⟨i, h, t⟩ := h
  exact ⟨i, h.symm W, t⟩
theorem tree_way {n : Network} (W : WF n) {v i u : Nat} (h : Nb n v i u) (t : isTreeLink n i = true) : (vi n v = i ∧ cst n u < cst n v) ∨ (vi n u = i ∧ cst n v < cst n u) := by
  obtain ⟨hi, x, hx, e⟩ := isTreeLink_iff.mp t
  obtain ⟨y, hy, _, hc⟩ := up_link W hx (by rw [e]; exact hi)
  rw [e] at hy
  rcases h.ends W hy with ⟨rfl, rfl⟩ | ⟨rfl, rfl⟩
  · exact .inl ⟨e, hc⟩
  · exact .inr ⟨e, hc⟩
theorem TreeE.ne {n : Network} (W : WF n) {v u : Nat} (h : TreeE n v u) : cst n u ≠ cst n v := by
  obtain ⟨i, h, t⟩ := h
  rcases tree_way W h t with ⟨_, c⟩ | ⟨_, c⟩ <;> omega
theorem TreeE.up {n : Network} (W : WF n) {v u u' : Nat} (h : TreeE n v u) (h' : TreeE n v u') (c : cst n u < cst n v) (c' : cst n u' < cst n v) : u = u' := by
  obtain ⟨i, h, t⟩ := h
  obtain ⟨j, h', t'⟩ := h'
  rcases tree_way W h t with ⟨e, _⟩ | ⟨_, q⟩
  · rcases tree_way W h' t' with ⟨e', _⟩ | ⟨_, q⟩
    · have : i = j := e.symm.trans e'
      subst this
      exact h.fn h'
    · omega
  · omega
/-! ### what is reached -/
inductive Reach (R : Nat → Nat → Prop) (v : Nat) : Nat → Prop
  | here : Reach R v v
  | step {u x : Nat} : Reach R v u → R u x → Reach R v x
theorem Reach.trans {R : Nat → Nat → Prop} {v u x : Nat} (a : Reach R v u) (b : Reach R u x) : Reach R v x := by
  induction b with
  | here => exact a
  | step _ r ih => exact .step ih r
theorem Reach.mono {R S : Nat → Nat → Prop} (h : ∀ a b, R a b → S a b) {v u : Nat} (a : Reach R v u) : Reach S v u := by
  induction a with
  | here => exact .here
  | step _ r ih => exact .step ih (h _ _ r)
theorem Reach.symm {R : Nat → Nat → Prop} (h : ∀ a b, R a b → R b a) {v u : Nat} (a : Reach R v u) : Reach R u v := by
  induction a with
  | here => exact .here
  | step _ r ih => exact (Reach.step .here (h _ _ r)).trans ih
def UE (n : Network) (v u : Nat) : Prop := ∃ i, Nb n v i u
theorem UE.symm {n : Network} (W : WF n) {v u : Nat} (h : UE n v u) : UE n u v := by
  obtain ⟨i, h⟩ := h
  exact ⟨i, h.symm W⟩
theorem rt_reach {n : Network} (W : WF n) {v u : Nat} (h : Reach (UE n) v u) : rt n v = rt n u := by
  induction h with
  | here => rfl
  | step _ r ih => obtain ⟨i, r⟩ := r; exact ih.trans (rt_nb W r)
/-- up the tree to the root -/
theorem to_root {n : Network} (W : WF n) : ∀ (c : Nat) {v : Nat}, v < n.bridgeIds.length → cst n v ≤ c → ∃ r, r < n.bridgeIds.length ∧ Reach (TreeE n) v r ∧ bridgeId n r = rt n v
  | c, v, hv, hc => by
    by_cases h : vi n v < n.links.length
    · obtain ⟨u, hu, er, ec⟩ := up_link W hv h
      cases c with
      | zero => omega
      | succ c =>
        obtain ⟨r, h1, h2, h3⟩ := to_root W c (hu.lt W).2.1 (by omega)
        exact ⟨r, h1, (Reach.step .here ⟨_, hu, isTreeLink_iff.mpr ⟨h, v, hv, rfl⟩⟩).trans h2, h3.trans er⟩
    · exact ⟨v, hv, .here, (no_link W hv h).1.symm⟩
theorem bridgeId_inj {n : Network} (W : WF n) {v u : Nat} (hv : v < n.bridgeIds.length) (hu : u < n.bridgeIds.length) (h : bridgeId n v = bridgeId n u) : v = u := by
  unfold bridgeId at h
  rw [List.getD_eq_getElem?_getD, List.getD_eq_getElem?_getD, List.getElem?_eq_getElem hv, List.getElem?_eq_getElem hu] at h
  exact (List.getElem_inj W.nodup).mp h
theorem reach_lt {n : Network} (W : WF n) {v u : Nat} (hv : v < n.bridgeIds.length) (h : Reach (UE n) v u) : u < n.bridgeIds.length := by
  cases h with
  | here => exact hv
  | step _ r => obtain ⟨i, r⟩ := r; exact (r.lt W).2.1
/-- the tree links span -/
theorem spans {n : Network} (W : WF n) {v u : Nat} (hv : v < n.bridgeIds.length) : Reach (UE n) v u ↔ Reach (TreeE n) v u := by
  constructor
  · intro h
    have hu := reach_lt W hv h
    obtain ⟨r, r1, r2, r3⟩ := to_root W _ hv (Nat.le_refl _)
    obtain ⟨q, q1, q2, q3⟩ := to_root W _ hu (Nat.le_refl _)
    have e : r = q := bridgeId_inj W r1 q1 (by rw [r3, q3, rt_reach W h])
    subst e
    exact r2.trans (q2.symm fun a b => TreeE.symm W)
  · exact Reach.mono fun a b ⟨i, h, _⟩ => ⟨i, h⟩
end TB
end
section
set_option autoImplicit false
namespace TB
open Su200
/-! ### simple paths -/
def Lnk (R : Nat → Nat → Prop) : List Nat → Prop
  | [] => True
  | [_] => True
  | a :: b :: r => R a b ∧ Lnk R (b :: r)
structure Path (R : Nat → Nat → Prop) (v w : Nat) (l : List Nat) : Prop where
  hd : l.head? = some v
  lt : l.getLast? = some w
  lk : Lnk R l
  nd : l.Nodup
section
variable {R : Nat → Nat → Prop} {h : Nat → Nat}
theorem Lnk.tail {a : Nat} {l : List Nat} (x : Lnk R (a :: l)) : Lnk R l := by
  cases l with
  | nil => trivial
  | cons b r => exact x.2
theorem Lnk.snoc : ∀ {l : List Nat} {a b : Nat}, l.getLast? = some a → R a b → Lnk R l → Lnk R (l ++ [b])
  | [], a, b, e, _, _ => by simp at e
  | [x], a, b, e, r, _ => by
    have : x = a := by simpa using e
    subst this
    exact ⟨r, trivial⟩
  | x :: y :: l, a, b, e, r, k => by
    refine ⟨k.1, ?_⟩
    exact Lnk.snoc (l := y :: l) (by simpa [List.getLast?_cons_cons] using e) r k.2
theorem Lnk.reverse (sy : ∀ a b, R a b → R b a) : ∀ {l : List Nat}, Lnk R l → Lnk R l.reverse
  | [], _ => trivial
  | [x], _ => trivial
  | x :: y :: l, k => by
    have ih := Lnk.reverse sy (l := y :: l) k.2
    rw [List.reverse_cons]
    refine Lnk.snoc (a := y) ?_ (sy _ _ k.1) ih
    simp
theorem Path.reverse (sy : ∀ a b, R a b → R b a) {v w : Nat} {l : List Nat} (p : Path R v w l) : Path R w v l.reverse :=
  ⟨by rw [List.head?_reverse]; exact p.lt, by rw [List.getLast?_reverse]; exact p.hd, p.lk.reverse sy, by
    have := p.nd
    rw [List.nodup_iff_pairwise_ne] at this ⊢
    rw [List.pairwise_reverse]
    exact this.imp fun e => Ne.symm e⟩
theorem Path.snoc {v w x : Nat} {l : List Nat} (p : Path R v w l) (r : R w x) (hx : x ∉ l) : Path R v x (l ++ [x]) := by
  refine ⟨?_, by simp, p.lk.snoc p.lt r, ?_⟩
  · cases l with
    | nil => have := p.hd; simp at this
    | cons a l => have := p.hd; simpa using this
  · rw [List.nodup_append]
    refine ⟨p.nd, by simp, fun a ha b hb => ?_⟩
    rw [List.mem_singleton] at hb
    subst hb
    intro e
    subst e
    exact hx ha
theorem Path.one (R : Nat → Nat → Prop) (v : Nat) : Path R v v [v] := ⟨rfl, rfl, trivial, by simp⟩
theorem Path.same {v : Nat} {l : List Nat} (p : Path R v v l) : l = [v] := by
  obtain ⟨a, b, _, d⟩ := p
  cases l with
  | nil => simp at a
  | cons x r =>
    have : x = v := by simpa using a
    subst this
    cases r with
    | nil => rfl
    | cons y r =>
      rw [List.getLast?_cons_cons] at b
      have := List.mem_of_getLast? b
      exact absurd this (List.nodup_cons.mp d).1
theorem Path.step {v w : Nat} {l : List Nat} (p : Path R v w l) (ne : v ≠ w) : ∃ u r, l = v :: u :: r ∧ R v u ∧ Path R u w (u :: r) ∧ v ∉ u :: r := by
  obtain ⟨a, b, c, d⟩ := p
  cases l with
  | nil => simp at a
  | cons x r =>
    have : x = v := by simpa using a
    subst this
    cases r with
    | nil => exact absurd (by simpa using b) ne
    | cons y r =>
      refine ⟨y, r, rfl, c.1, ⟨rfl, ?_, c.2, (List.nodup_cons.mp d).2⟩, (List.nodup_cons.mp d).1⟩
      rw [List.getLast?_cons_cons] at b
      exact b
/-- away from the root there is no way back -/
theorem climbs (sy : ∀ a b, R a b → R b a) (t1 : ∀ a b, R a b → h b ≠ h a) (t2 : ∀ a b c, R a b → R a c → h b < h a → h c < h a → b = c) :
    ∀ (r : List Nat) {a b w : Nat}, Lnk R (a :: b :: r) → (a :: b :: r).Nodup → h a < h b → (b :: r).getLast? = some w → h a < h w
  | [], a, b, w, _, _, c, e => by
    have : b = w := by simpa using e
    subst this
    exact c
  | x :: r, a, b, w, k, nd, c, e => by
    have hx : x ≠ a := fun z => by
      subst z
      exact (List.nodup_cons.mp nd).1 (by simp)
    have hbx : h b < h x := by
      by_cases q : h x < h b
      · exact absurd (t2 b a x (sy _ _ k.1) k.2.1 c q).symm hx
      · have := t1 b x k.2.1
        omega
    have := climbs sy t1 t2 r (a := b) (b := x) k.2 (List.nodup_cons.mp nd).2 hbx (by rw [List.getLast?_cons_cons] at e; exact e)
    omega
theorem path_unique (sy : ∀ a b, R a b → R b a) (t1 : ∀ a b, R a b → h b ≠ h a) (t2 : ∀ a b c, R a b → R a c → h b < h a → h c < h a → b = c) :
    ∀ (m : Nat) {v w : Nat} {l₁ l₂ : List Nat}, l₁.length ≤ m → Path R v w l₁ → Path R v w l₂ → l₁ = l₂
  | 0, v, w, l₁, l₂, hm, p, _ => by
    have := p.hd
    cases l₁ with
    | nil => simp at this
    | cons a l => simp at hm
  | m + 1, v, w, l₁, l₂, hm, p, q => by
    -- the first step of a path to a bridge that is not higher
    have first : ∀ {v w : Nat} {l₁ l₂ : List Nat}, l₁.length ≤ m + 1 → h w ≤ h v → v ≠ w → Path R v w l₁ → Path R v w l₂ → l₁ = l₂ := by
      intro v w l₁ l₂ hm hw ne p q
      obtain ⟨u, r, rfl, e, pr, pn⟩ := p.step ne
      obtain ⟨u', r', rfl, e', qr, qn⟩ := q.step ne
      have down : ∀ {u r}, R v u → Path R u w (u :: r) → v ∉ u :: r → h u < h v := by
        intro u r e pr pn
        by_cases c : h v < h u
        · have := climbs sy t1 t2 r (a := v) (b := u) (w := w) ⟨e, pr.lk⟩ (List.nodup_cons.mpr ⟨pn, pr.nd⟩) c pr.lt
          omega
        · have := t1 v u e
          omega
      have : u = u' := t2 v u u' e e' (down e pr pn) (down e' qr qn)
      subst this
      have := path_unique sy t1 t2 m (by simp at hm ⊢; omega) pr qr
      rw [this]
    by_cases ne : v = w
    · subst ne
      rw [p.same, q.same]
    · by_cases hw : h w ≤ h v
      · exact first hm hw ne p q
      · have := first (l₁ := l₁.reverse) (l₂ := l₂.reverse) (by simpa using hm) (by omega) (Ne.symm ne) (p.reverse sy) (q.reverse sy)
        have := congrArg List.reverse this
        simpa using this
end
/-! ### the specification's search for a path -/
theorem no_loop {n : Network} (W : WF n) {v i u : Nat} (h : (i, u) ∈ treeNeighbors n v) : u ≠ v := fun e => by
  have := ((mem_treeNeighbors.mp h).1.lt W).2.2.2
  exact this e.symm
theorem from_sound {n : Network} (W : WF n) : ∀ (f : Nat) (vs : List Nat) (v w : Nat) (p : List Nat), treePathFrom n f vs v w = some p → v ∉ vs → Path (TreeE n) v w p ∧ ∀ x ∈ p, x ∉ vs
  | 0, _, _, _, _, h, _ => by simp [treePathFrom] at h
  | f + 1, vs, v, w, p, h, hv => by
    unfold treePathFrom at h
    by_cases e : v = w
    · rw [if_pos e] at h
      cases h
      subst e
      exact ⟨Path.one _ v, by simpa using hv⟩
    · rw [if_neg e] at h
      obtain ⟨⟨i, u⟩, hm, hp⟩ := List.exists_of_findSome?_eq_some h
      rw [List.mem_filter] at hm
      obtain ⟨hm, hu⟩ := hm
      have hu : u ∉ vs := by simpa using hu
      rw [Option.map_eq_some_iff] at hp
      obtain ⟨r, hr, rfl⟩ := hp
      have nu := no_loop W hm
      obtain ⟨a, b⟩ := from_sound W f (v :: vs) u w r hr (by simp [nu, hu])
      have hvr : v ∉ r := fun q => b v q (by simp)
      obtain ⟨a1, a2, a3, a4⟩ := a
      cases r with
      | nil => simp at a1
      | cons x r =>
        have : x = u := by simpa using a1
        subst this
        refine ⟨⟨rfl, by rw [List.getLast?_cons_cons]; exact a2, ⟨⟨i, mem_treeNeighbors.mp hm⟩, a3⟩, List.nodup_cons.mpr ⟨hvr, a4⟩⟩, fun y hy => ?_⟩
        rcases List.mem_cons.mp hy with rfl | hy
        · exact hv
        · exact fun q => b y hy (by simp [q])
theorem from_complete {n : Network} : ∀ (f : Nat) (vs : List Nat) (v w : Nat) (l : List Nat), Path (TreeE n) v w l → (∀ x ∈ l, x ∉ vs) → l.length ≤ f → (treePathFrom n f vs v w).isSome = true
  | 0, _, _, _, l, p, _, hl => by
    have := p.hd
    cases l with
    | nil => simp at this
    | cons a l => simp at hl
  | f + 1, vs, v, w, l, p, hd, hl => by
    unfold treePathFrom
    by_cases e : v = w
    · rw [if_pos e]; rfl
    · rw [if_neg e]
      obtain ⟨u, r, rfl, ⟨i, hi, ht⟩, pr, pn⟩ := p.step e
      rw [List.findSome?_isSome_iff]
      refine ⟨(i, u), List.mem_filter.mpr ⟨mem_treeNeighbors.mpr ⟨hi, ht⟩, ?_⟩, ?_⟩
      · have := hd u (by simp)
        simpa using this
      · rw [Option.isSome_map]
        refine from_complete f (v :: vs) u w (u :: r) pr (fun x hx => ?_) (by simp at hl ⊢; omega)
        have a := hd x (List.mem_cons_of_mem _ hx)
        have b : x ≠ v := fun z => by
          subst z
          exact pn hx
        simp [a, b]
theorem path_lt {n : Network} (W : WF n) : ∀ {l : List Nat} {v : Nat}, v < n.bridgeIds.length → l.head? = some v → Lnk (TreeE n) l → ∀ x ∈ l, x < n.bridgeIds.length
  | [], _, _, _, _, x, hx => by cases hx
  | [a], v, hv, e, _, x, hx => by
    have : a = v := by simpa using e
    subst this
    rw [List.mem_singleton] at hx
    subst hx
    exact hv
  | a :: b :: r, v, hv, e, k, x, hx => by
    have : a = v := by simpa using e
    subst this
    rcases List.mem_cons.mp hx with rfl | hx
    · exact hv
    · obtain ⟨i, hi, _⟩ := k.1
      exact path_lt W (hi.lt W).2.1 rfl k.2 x hx
/-- the one path over the tree links is what the specification finds -/
theorem treePath_of {n : Network} (W : WF n) {v w : Nat} (hv : v < n.bridgeIds.length) {l : List Nat} (p : Path (TreeE n) v w l) : treePath n v w = some l := by
  have hl := nodup_lt p.nd (path_lt W hv p.hd p.lk)
  have hs := from_complete (bridgeCount n + 1) [] v w l p (fun x _ => by simp) (by unfold bridgeCount; omega)
  unfold treePath
  cases e : treePathFrom n (bridgeCount n + 1) [] v w with
  | none => rw [e] at hs; cases hs
  | some r =>
    have q := (from_sound W _ _ _ _ _ e (by simp)).1
    have := path_unique (R := TreeE n) (h := cst n) (fun a b => TreeE.symm W) (fun a b => TreeE.ne W) (fun a b c => TreeE.up W) _ (Nat.le_refl _) q p
    rw [this]
theorem Path.reach {R : Nat → Nat → Prop} : ∀ {l : List Nat} {v w : Nat}, Path R v w l → Reach R v w
  | [], _, _, p => by have := p.hd; simp at this
  | [a], v, w, p => by
    have h1 : a = v := by simpa using p.hd
    have h2 : a = w := by simpa using p.lt
    subst h1 h2
    exact .here
  | a :: b :: r, v, w, p => by
    have h1 : a = v := by simpa using p.hd
    subst h1
    refine (Reach.step .here p.lk.1).trans (Path.reach (l := b :: r) ⟨rfl, ?_, p.lk.2, (List.nodup_cons.mp p.nd).2⟩)
    have := p.lt
    rw [List.getLast?_cons_cons] at this
    exact this
theorem treePath_none {n : Network} (W : WF n) {v w : Nat} (h : ¬ Reach (TreeE n) v w) : treePath n v w = none := by
  cases e : treePath n v w with
  | none => rfl
  | some r => exact absurd (from_sound W _ _ _ _ _ e (by simp)).1.reach h
end TB
end
section
set_option autoImplicit false
namespace TB
open Su200
/-! ### a while loop: m turns from s to r -/
def Loop {S : Type} (step : S → Option S) : Nat → S → S → Prop
  | 0, s, r => step s = none ∧ s = r
  | m + 1, s, r => ∃ t, step s = some t ∧ Loop step m t r
/-! ### trails over chosen links, breadth first -/
abbrev Trails := List (Nat × List Nat)
def keys (t : Trails) : List Nat := t.map Prod.fst
def trail (t : Trails) (b : Nat) : List Nat := ((t.find? fun y => y.1 == b).map Prod.snd).getD []
def addNb (here : Nat) (s : Trails × List Nat) (x : Nat) : Trails × List Nat :=
  if (keys s.1).contains x then s else (s.1 ++ [(x, trail s.1 here ++ [x])], s.2 ++ [x])
def bfsTurn (nb : Nat → List Nat) : Trails × List Nat → Option (Trails × List Nat)
  | (_, []) => none
  | (t, h :: q) => some ((nb h).foldl (addNb h) (t, q))
theorem trail_mem {t : Trails} {b : Nat} (h : b ∈ keys t) : (b, trail t b) ∈ t := by
  unfold keys at h
  unfold trail
  rw [List.mem_map] at h
  obtain ⟨y, hy, e⟩ := h
  cases q : t.find? (fun y => y.1 == b) with
  | none =>
    have := List.find?_eq_none.mp q y hy
    simp [e] at this
  | some z =>
    have h1 := List.mem_of_find?_eq_some q
    have h2 := List.find?_some q
    have h2 : z.1 = b := by simpa using h2
    subst h2
    exact h1
theorem trail_of {t : Trails} (nd : (keys t).Nodup) : ∀ {b : Nat} {p : List Nat}, (b, p) ∈ t → trail t b = p := by
  induction t with
  | nil => intro b p h; cases h
  | cons y t ih =>
    intro b p h
    have nd' : y.1 ∉ keys t ∧ (keys t).Nodup := List.nodup_cons.mp nd
    rcases List.mem_cons.mp h with rfl | h
    · simp [trail]
    · have hb : b ∈ keys t := List.mem_map.mpr ⟨_, h, rfl⟩
      have ne : y.1 ≠ b := fun e => nd'.1 (e ▸ hb)
      have := ih nd'.2 h
      unfold trail at this ⊢
      rw [List.find?_cons_of_neg (by simpa using ne)]
      exact this
structure Bfs (N : Nat) (R : Nat → Nat → Prop) (v : Nat) (t : Trails) (q : List Nat) : Prop where
  nd : (keys t).Nodup
  lt : ∀ b ∈ keys t, b < N
  sub : ∀ b ∈ q, b ∈ keys t
  path : ∀ b p, (b, p) ∈ t → Path R v b p ∧ ∀ x ∈ p, x ∈ keys t
  start : v ∈ keys t
/-- one neighbour -/
theorem Bfs.add {N : Nat} {R : Nat → Nat → Prop} {v here x : Nat} {t : Trails} {q : List Nat} (B : Bfs N R v t q) (hh : here ∈ keys t) (hx : x < N) (r : R here x) :
    Bfs N R v (addNb here (t, q) x).1 (addNb here (t, q) x).2 ∧ (∀ b ∈ keys t, b ∈ keys (addNb here (t, q) x).1) ∧ x ∈ keys (addNb here (t, q) x).1 ∧
      (∀ b ∈ q, b ∈ (addNb here (t, q) x).2) ∧ (∀ b ∈ keys (addNb here (t, q) x).1, b ∈ keys t ∨ b ∈ (addNb here (t, q) x).2) ∧
      (addNb here (t, q) x).1.length + q.length = t.length + (addNb here (t, q) x).2.length := by
  unfold addNb
  by_cases c : (keys t).contains x = true
  · simp only [c, if_true]
    have c' : x ∈ keys t := by simpa using c
    exact ⟨B, fun b h => h, c', fun b h => h, fun b h => .inl h, trivial⟩
  · simp only [c, if_false, Bool.false_eq_true]
    have c' : x ∉ keys t := by simpa using c
    have kk : keys (t ++ [(x, trail t here ++ [x])]) = keys t ++ [x] := by simp [keys]
    obtain ⟨p1, p2⟩ := B.path _ _ (trail_mem hh)
    refine ⟨⟨?_, ?_, ?_, ?_, ?_⟩, ?_, ?_, ?_, ?_, ?_⟩
    · rw [kk, List.nodup_append]
      refine ⟨B.nd, by simp, fun a ha b hb e => ?_⟩
      rw [List.mem_singleton] at hb
      subst hb e
      exact c' ha
    · intro b hb
      rw [kk, List.mem_append, List.mem_singleton] at hb
      rcases hb with hb | rfl
      · exact B.lt b hb
      · exact hx
    · intro b hb
      rw [List.mem_append, List.mem_singleton] at hb
      rw [kk, List.mem_append, List.mem_singleton]
      exact hb.imp (B.sub b) id
    · intro b p hb
      rw [List.mem_append, List.mem_singleton] at hb
      rw [kk]
      rcases hb with hb | hb
      · obtain ⟨a, d⟩ := B.path b p hb
        exact ⟨a, fun y hy => List.mem_append_left _ (d y hy)⟩
      · obtain ⟨rfl, rfl⟩ := Prod.mk.inj hb
        refine ⟨p1.snoc r (fun z => c' (p2 _ z)), fun y hy => ?_⟩
        rw [List.mem_append] at hy ⊢
        exact hy.imp (p2 y) id
    · rw [kk]; exact List.mem_append_left _ B.start
    · intro b hb; rw [kk]; exact List.mem_append_left _ hb
    · rw [kk]; simp
    · intro b hb; exact List.mem_append_left _ hb
    · intro b hb
      rw [kk, List.mem_append, List.mem_singleton] at hb
      rcases hb with hb | rfl
      · exact .inl hb
      · exact .inr (by simp)
    · simp; omega
theorem Bfs.adds {N : Nat} {R : Nat → Nat → Prop} {v here : Nat} : ∀ (l : List Nat) {t : Trails} {q : List Nat}, Bfs N R v t q → here ∈ keys t → (∀ x ∈ l, x < N ∧ R here x) →
    Bfs N R v (l.foldl (addNb here) (t, q)).1 (l.foldl (addNb here) (t, q)).2 ∧ (∀ b ∈ keys t, b ∈ keys (l.foldl (addNb here) (t, q)).1) ∧ (∀ x ∈ l, x ∈ keys (l.foldl (addNb here) (t, q)).1) ∧
      (∀ b ∈ q, b ∈ (l.foldl (addNb here) (t, q)).2) ∧ (∀ b ∈ keys (l.foldl (addNb here) (t, q)).1, b ∈ keys t ∨ b ∈ (l.foldl (addNb here) (t, q)).2) ∧
      (l.foldl (addNb here) (t, q)).1.length + q.length = t.length + (l.foldl (addNb here) (t, q)).2.length
  | [], t, q, B, _, _ => ⟨B, fun b h => h, fun x h => (by cases h), fun b h => h, fun b h => .inl h, rfl⟩
  | x :: l, t, q, B, hh, hl => by
    obtain ⟨a1, a2, a3, a4, a5, a6⟩ := B.add hh (hl x (by simp)).1 (hl x (by simp)).2
    obtain ⟨b1, b2, b3, b4, b5, b6⟩ := Bfs.adds l (t := (addNb here (t, q) x).1) (q := (addNb here (t, q) x).2) a1 (a2 _ hh) (fun y hy => hl y (List.mem_cons_of_mem _ hy))
    rw [List.foldl_cons]
    refine ⟨b1, fun b hb => b2 b (a2 b hb), fun y hy => ?_, fun b hb => b4 b (a4 b hb), fun b hb => ?_, by
      have : (addNb here (t, q) x) = ((addNb here (t, q) x).1, (addNb here (t, q) x).2) := rfl
      rw [this]; omega⟩
    · rcases List.mem_cons.mp hy with rfl | hy
      · exact b2 _ a3
      · exact b3 y hy
    · rcases b5 b hb with h | h
      · rcases a5 b h with h | h
        · exact .inl h
        · exact .inr (b4 b h)
      · exact .inr h
/-- the loop ends; its trails are paths to all that is reached -/
theorem bfs_runs {N v : Nat} {nb : Nat → List Nat} (hnb : ∀ b, ∀ x ∈ nb b, x < N) : ∀ (k : Nat) {t : Trails} {q : List Nat}, N + q.length ≤ k + t.length →
    Bfs N (fun a b => b ∈ nb a) v t q → (∀ b ∈ keys t, b ∉ q → ∀ x ∈ nb b, x ∈ keys t) → ∃ m r, Loop (bfsTurn nb) m (t, q) (r, []) ∧ Bfs N (fun a b => b ∈ nb a) v r [] ∧ ∀ b ∈ keys r, ∀ x ∈ nb b, x ∈ keys r
  | k, t, [], _, B, hc => ⟨0, t, ⟨rfl, rfl⟩, B, fun b hb => hc b hb (by simp)⟩
  | 0, t, h :: q, hk, B, _ => by
    have : (keys t).length ≤ N := nodup_lt B.nd B.lt
    have e : (keys t).length = t.length := by simp [keys]
    simp at hk
    omega
  | k + 1, t, h :: q, hk, B, hc => by
    have hh : h ∈ keys t := B.sub h (by simp)
    have B' : Bfs N (fun a b => b ∈ nb a) v t q := ⟨B.nd, B.lt, fun b hb => B.sub b (List.mem_cons_of_mem _ hb), B.path, B.start⟩
    obtain ⟨b1, b2, b3, b4, b5, b6⟩ := Bfs.adds (nb h) B' hh (fun x hx => ⟨hnb h x hx, hx⟩)
    obtain ⟨m, r, l1, l2, l3⟩ := bfs_runs hnb k (t := ((nb h).foldl (addNb h) (t, q)).1) (q := ((nb h).foldl (addNb h) (t, q)).2) (by simp at hk; omega) b1 (fun b hb hq x hx => by
      by_cases e : b = h
      · subst e
        exact b3 x hx
      · rcases b5 b hb with z | z
        · refine b2 x (hc b z (fun w => ?_) x hx)
          rcases List.mem_cons.mp w with w | w
          · exact e w
          · exact hq (b4 b w)
        · exact absurd z hq)
    exact ⟨m + 1, r, ⟨_, rfl, l1⟩, l2, l3⟩
theorem bfs_start {N v : Nat} {nb : Nat → List Nat} (hnb : ∀ b, ∀ x ∈ nb b, x < N) (hv : v < N) : ∃ m r, Loop (bfsTurn nb) m ([(v, [v])], [v]) (r, []) ∧ (keys r).Nodup ∧ (∀ b ∈ keys r, b < N) ∧
    (∀ b, b ∈ keys r ↔ Reach (fun a b => b ∈ nb a) v b) ∧ ∀ b ∈ keys r, Path (fun a b => b ∈ nb a) v b (trail r b) := by
  obtain ⟨m, r, h1, h2, h3⟩ := bfs_runs (v := v) hnb (N + 1) (t := [(v, [v])]) (q := [v]) (by simp) ⟨by simp [keys], by simpa [keys] using hv, by simp [keys], fun b p h => by
    rw [List.mem_singleton] at h
    obtain ⟨rfl, rfl⟩ := Prod.mk.inj h
    exact ⟨Path.one _ _, by simp [keys]⟩, by simp [keys]⟩ (fun b hb hq => by
      simp [keys] at hb hq
      exact absurd hb hq)
  refine ⟨m, r, h1, h2.nd, h2.lt, fun b => ⟨fun h => (h2.path _ _ (trail_mem h)).1.reach, fun h => ?_⟩, fun b h => (h2.path _ _ (trail_mem h)).1⟩
  induction h with
  | here => exact h2.start
  | step _ r ih => exact h3 _ ih _ r
/-! ### the specification's traversal as such a loop -/
abbrev Vs := List (Nat × Nat)
def visTurn (next : Nat → Nat → Vs) : Vs × Vs → Option (Vs × Vs)
  | (_, []) => none
  | (vs, y :: q) => some (if vs.any (fun z => z.1 == y.1) = true then (vs, q) else (vs ++ [y], q ++ (next y.1 y.2).map fun z => (z.2, z.1)))
theorem traverse_loop {n : Network} {next : Nat → Nat → Vs} : ∀ (m f : Nat) {vs q r : Vs}, m ≤ f → Loop (visTurn next) m (vs, q) (r, []) → traverse n next f vs q = r
  | 0, f, vs, q, r, _, h => by
    obtain ⟨h1, h2⟩ := h
    obtain ⟨rfl, rfl⟩ := Prod.mk.inj h2
    cases f <;> rfl
  | m + 1, f + 1, vs, q, r, hf, h => by
    obtain ⟨t, h1, h2⟩ := h
    cases q with
    | nil => cases h1
    | cons y q =>
      cases Option.some.inj h1
      have ih := fun {vs q} => traverse_loop (n := n) (next := next) (vs := vs) (q := q) m f (r := r) (by omega)
      unfold traverse
      by_cases c : vs.any (fun z => z.1 == y.1) = true
      · rw [if_pos c] at h2 ⊢
        exact ih h2
      · rw [if_neg c] at h2 ⊢
        exact ih h2
/-- how much is still to come: what is in the queue, and the neighbours of the bridges not yet visited -/
def left (deg : Nat → Nat) (N : Nat) (vs : Vs) : Nat := (((List.range N).filter fun b => !(vs.any fun z => z.1 == b)).map deg).sum
theorem sum_filter_drop {deg : Nat → Nat} {p p' : Nat → Bool} {b : Nat} : ∀ {l : List Nat}, l.Nodup → b ∈ l → p b = true → p' b = false → (∀ x ∈ l, x ≠ b → p' x = p x) →
    ((l.filter p).map deg).sum = deg b + ((l.filter p').map deg).sum
  | [], _, h, _, _, _ => by cases h
  | x :: l, nd, h, hp, hp', hx => by
    obtain ⟨n1, n2⟩ := List.nodup_cons.mp nd
    by_cases e : x = b
    · subst e
      rw [List.filter_cons_of_pos hp, List.filter_cons_of_neg (by simp [hp'])]
      have : l.filter p' = l.filter p := List.filter_congr fun y hy => hx y (List.mem_cons_of_mem _ hy) fun z => n1 (z ▸ hy)
      rw [this]
      simp
    · have hb : b ∈ l := by
        rcases List.mem_cons.mp h with z | z
        · exact absurd z.symm e
        · exact z
      have ih := sum_filter_drop (deg := deg) n2 hb hp hp' fun y hy => hx y (List.mem_cons_of_mem _ hy)
      have ex := hx x (by simp) e
      cases q : p x with
      | true =>
        rw [q] at ex
        rw [List.filter_cons_of_pos q, List.filter_cons_of_pos ex]
        simp only [List.map_cons, List.sum_cons, ih]
        omega
      | false =>
        rw [q] at ex
        rw [List.filter_cons_of_neg (by simp [q]), List.filter_cons_of_neg (by simp [ex])]
        exact ih
theorem left_visit {deg : Nat → Nat} {N : Nat} {vs : Vs} {y : Nat × Nat} (hy : y.1 < N) (c : ¬ vs.any (fun z => z.1 == y.1) = true) : left deg N vs = deg y.1 + left deg N (vs ++ [y]) := by
  unfold left
  refine sum_filter_drop List.nodup_range (List.mem_range.mpr hy) (by cases q : vs.any (fun z => z.1 == y.1) with | true => exact absurd q c | false => rfl) (by simp) fun x _ hx => ?_
  simp only [List.any_append, List.any_cons, List.any_nil, Bool.or_false]
  have : (y.1 == x) = false := by simpa using Ne.symm hx
  rw [this, Bool.or_false]
structure Vis (N : Nat) (next : Nat → Nat → Vs) (v : Nat) (vs q : Vs) : Prop where
  nd : (vs.map Prod.fst).Nodup
  lt : ∀ y ∈ vs ++ q, y.1 < N
  reach : ∀ y ∈ vs ++ q, Reach (fun a b => ∃ i j, (i, b) ∈ next a j) v y.1
  start : v ∈ (vs ++ q).map Prod.fst
theorem vis_runs {N v : Nat} {next : Nat → Nat → Vs} {deg : Nat → Nat} (hdeg : ∀ b j, (next b j).length ≤ deg b) (hn : ∀ b j, ∀ y ∈ next b j, y.2 < N) : ∀ (k : Nat) {vs q : Vs}, q.length + left deg N vs ≤ k →
    Vis N next v vs q → (∀ y ∈ vs, ∀ z ∈ next y.1 y.2, z.2 ∈ (vs ++ q).map Prod.fst) →
    ∃ m r, m ≤ k ∧ Loop (visTurn next) m (vs, q) (r, []) ∧ Vis N next v r [] ∧ ∀ y ∈ r, ∀ z ∈ next y.1 y.2, z.2 ∈ r.map Prod.fst
  | k, vs, [], _, V, hc => ⟨0, vs, Nat.zero_le _, ⟨rfl, rfl⟩, V, by simpa using hc⟩
  | 0, vs, y :: q, hk, _, _ => by simp at hk
  | k + 1, vs, y :: q, hk, V, hc => by
    have hy : y.1 < N := V.lt y (by simp)
    by_cases c : vs.any (fun z => z.1 == y.1) = true
    · obtain ⟨z, hz, ez⟩ := List.any_eq_true.mp c
      have ez : z.1 = y.1 := by simpa using ez
      have ein : y.1 ∈ vs.map Prod.fst := List.mem_map.mpr ⟨z, hz, ez⟩
      have sh : ∀ b, b ∈ (vs ++ y :: q).map Prod.fst → b ∈ (vs ++ q).map Prod.fst := by
        intro b hb
        simp only [List.map_append, List.map_cons, List.mem_append, List.mem_cons] at hb ⊢
        rcases hb with hb | rfl | hb
        · exact .inl hb
        · exact .inl ein
        · exact .inr hb
      obtain ⟨m, r, l0, l1, l2⟩ := vis_runs (v := v) hdeg hn k (vs := vs) (q := q) (by simp at hk; omega)
        ⟨V.nd, fun x hx => V.lt x (by simp at hx ⊢; exact hx.imp id .inr), fun x hx => V.reach x (by simp at hx ⊢; exact hx.imp id .inr), sh _ V.start⟩ (fun x hx w hw => sh _ (hc x hx w hw))
      exact ⟨m + 1, r, by omega, ⟨_, rfl, by rw [if_pos c]; exact l1⟩, l2⟩
    · have hl := left_visit (deg := deg) hy c
      have nin : y.1 ∉ vs.map Prod.fst := fun z => c (by
        obtain ⟨w, hw, e⟩ := List.mem_map.mp z
        exact List.any_eq_true.mpr ⟨w, hw, by simpa using e⟩)
      have hd := hdeg y.1 y.2
      have sh : ∀ b, b ∈ (vs ++ y :: q).map Prod.fst → b ∈ ((vs ++ [y]) ++ (q ++ (next y.1 y.2).map fun z => (z.2, z.1))).map Prod.fst := by
        intro b hb
        simp only [List.map_append, List.map_cons, List.mem_append, List.mem_cons, List.map_nil, List.not_mem_nil, or_false] at hb ⊢
        rcases hb with hb | rfl | hb
        · exact .inl (.inl hb)
        · exact .inl (.inr rfl)
        · exact .inr (.inl hb)
      have cs : ∀ x, x ∈ (vs ++ [y]) ++ (q ++ (next y.1 y.2).map fun z => (z.2, z.1)) → x ∈ vs ++ y :: q ∨ ∃ z ∈ next y.1 y.2, x = (z.2, z.1) := by
        intro x hx
        simp only [List.mem_append, List.mem_map, List.mem_cons, List.not_mem_nil, or_false] at hx ⊢
        rcases hx with (hx | hx) | hx | ⟨z, hz, rfl⟩
        · exact .inl (.inl hx)
        · exact .inl (.inr (.inl hx))
        · exact .inl (.inr (.inr hx))
        · exact .inr ⟨z, hz, rfl⟩
      obtain ⟨m, r, l0, l1, l2⟩ := vis_runs (v := v) hdeg hn k (vs := vs ++ [y]) (q := q ++ (next y.1 y.2).map fun z => (z.2, z.1)) (by simp at hk ⊢; omega)
        ⟨by
          rw [List.map_append, List.nodup_append]
          refine ⟨V.nd, by simp, fun a ha b hb e => ?_⟩
          simp at hb
          subst hb e
          exact nin ha, fun x hx => by
          rcases cs x hx with h | ⟨z, hz, rfl⟩
          · exact V.lt x h
          · exact hn _ _ z hz, fun x hx => by
          rcases cs x hx with h | ⟨z, hz, rfl⟩
          · exact V.reach x h
          · exact .step (V.reach y (by simp)) ⟨z.1, y.2, hz⟩, sh _ V.start⟩ (fun x hx w hw => by
          rw [List.mem_append, List.mem_singleton] at hx
          rcases hx with hx | rfl
          · exact sh _ (hc x hx w hw)
          · simp only [List.map_append, List.mem_append, List.map_map, List.mem_map]
            exact .inr (.inr ⟨w, hw, rfl⟩))
      exact ⟨m + 1, r, by omega, ⟨_, rfl, by rw [if_neg c]; exact l1⟩, l2⟩
end TB
end
section
set_option autoImplicit false
namespace TB
open Su200
/-! ### the program's own words, over plain data -/
def atB (l : Link) (b : Nat) : Bool := decide (l.endA = b) || decide (l.endB = b)
def far (l : Link) (b : Nat) : Nat := if l.endA = b then l.endB else l.endA
def lAt (n : Network) (b : Nat) : List Nat := (List.range n.links.length).filter fun i => atB (link n i) b
theorem link_of {n : Network} {i : Nat} {l : Link} (h : n.links[i]? = some l) : link n i = l := by
  unfold link
  rw [List.getD_eq_getElem?_getD, h]
  rfl
theorem link_get {n : Network} {i : Nat} (h : i < n.links.length) : n.links[i]? = some (link n i) := by
  unfold link
  rw [List.getD_eq_getElem?_getD, List.getElem?_eq_getElem h]
  rfl
theorem mem_lAt {n : Network} {b i : Nat} : i ∈ lAt n b ↔ i < n.links.length ∧ atB (link n i) b = true := by
  unfold lAt
  rw [List.mem_filter, List.mem_range]
theorem zipIdx_range (n : Network) : n.links.zipIdx = (List.range n.links.length).map fun i => (link n i, i) := by
  apply List.ext_getElem
  · simp
  · intro i h1 h2
    simp only [List.getElem_zipIdx, List.getElem_map, List.getElem_range, Nat.zero_add]
    have : i < n.links.length := by simpa using h1
    rw [link_of (List.getElem?_eq_getElem this)]
theorem neighbors_eq (n : Network) (b : Nat) : neighbors n b = ((lAt n b).filter fun i => (link n i).up).map fun i => (i, far (link n i) b) := by
  unfold neighbors lAt
  rw [zipIdx_range, List.filterMap_map, List.filter_filter, ← List.filterMap_eq_map, ← List.filterMap_eq_filter, List.filterMap_filterMap]
  apply congrArg (fun f => List.filterMap f (List.range n.links.length))
  funext i
  simp only [Function.comp]
  unfold atB far
  cases hu : (link n i).up with
  | false => simp [Option.guard, hu]
  | true =>
    by_cases ha : (link n i).endA = b
    · simp [ha, Option.guard, hu]
    · by_cases hb : (link n i).endB = b
      · simp [ha, hb, Option.guard, hu]
      · simp [ha, hb, Option.guard]
/-- one link of next_path's loop -/
def hop (n : Network) (ps : List RootPath) (b : Nat) (best : RootPath) (i : Nat) : RootPath := if (link n i).up = true then better (offer n ps (i, far (link n i) b)) best else best
theorem foldl_filter_if {α β : Type} (p : α → Bool) (f : β → α → β) : ∀ (l : List α) (x : β), (l.filter p).foldl f x = l.foldl (fun x a => if p a = true then f x a else x) x
  | [], _ => rfl
  | a :: l, x => by
    cases q : p a with
    | true => rw [List.filter_cons_of_pos q, List.foldl_cons, List.foldl_cons, foldl_filter_if p f l, if_pos q]
    | false => rw [List.filter_cons_of_neg (by simp [q]), List.foldl_cons, foldl_filter_if p f l, q, if_neg Bool.false_ne_true]
theorem nextPath_hops (n : Network) (ps : List RootPath) (b : Nat) : nextPath n ps b = (lAt n b).foldl (hop n ps b) (ownPath n b) := by
  rw [nextPath_eq, neighbors_eq, List.foldl_map, foldl_filter_if]
  rfl
/-- how a path stands in a tuple -/
def pT (L : Nat) (p : RootPath) : List Int := [(p.rootId : Int), (p.cost : Int), if p.via < L then (p.neighborId : Int) else -1, if p.via < L then (p.via : Int) else -1]
structure OkP (n : Network) (p : RootPath) : Prop where
  ok : p.via < n.links.length ∨ (p.via = n.links.length ∧ p.cost = 0 ∧ p.neighborId = 0)
theorem okP_own (n : Network) (b : Nat) : OkP n (ownPath n b) := ⟨.inr ⟨rfl, rfl, rfl⟩⟩
theorem okP_offer {n : Network} {ps : List RootPath} {i u : Nat} (h : i < n.links.length) : OkP n (offer n ps (i, u)) := ⟨.inl h⟩
theorem okP_hop {n : Network} {ps : List RootPath} {b i : Nat} {x : RootPath} (h : i < n.links.length) (o : OkP n x) : OkP n (hop n ps b x i) := by
  unfold hop better
  split
  · split
    · exact okP_offer h
    · exact o
  · exact o
theorem okP_hops {n : Network} {ps : List RootPath} {b : Nat} : ∀ (l : List Nat) (x : RootPath), (∀ i ∈ l, i < n.links.length) → OkP n x → OkP n (l.foldl (hop n ps b) x)
  | [], _, _, o => o
  | i :: l, x, h, o => okP_hops l _ (fun j hj => h j (List.mem_cons_of_mem _ hj)) (okP_hop (h i (by simp)) o)
theorem okP_next {n : Network} {ps : List RootPath} {b : Nat} : OkP n (nextPath n ps b) := by
  rw [nextPath_hops]
  exact okP_hops _ _ (fun i hi => (mem_lAt.mp hi).1) (okP_own n b)
theorem okP_pk (n : Network) (k : Nat) : ∀ p ∈ pk n k, OkP n p := by
  cases k with
  | zero =>
    intro p hp
    rw [pk_zero, initialPaths, List.mem_map] at hp
    obtain ⟨b, _, rfl⟩ := hp
    exact okP_own n b
  | succ k =>
    intro p hp
    rw [pk_succ, round, List.mem_map] at hp
    obtain ⟨b, _, rfl⟩ := hp
    exact okP_next
theorem pT_inj {n : Network} {p q : RootPath} (hp : OkP n p) (hq : OkP n q) (h : pT n.links.length p = pT n.links.length q) : p = q := by
  obtain ⟨a, b, c, d⟩ := p
  obtain ⟨a', b', c', d'⟩ := q
  obtain ⟨hp⟩ := hp
  obtain ⟨hq⟩ := hq
  unfold pT at h
  simp only [List.cons.injEq, and_true] at h hp hq
  obtain ⟨h1, h2, h3, h4⟩ := h
  have e1 : a = a' := by omega
  have e2 : b = b' := by omega
  subst e1 e2
  by_cases x : d < n.links.length <;> by_cases y : d' < n.links.length <;> simp only [x, y, if_true, if_false] at h3 h4
  · have : c = c' := by omega
    have : d = d' := by omega
    subst_vars
    rfl
  · omega
  · omega
  · have e3 : c = c' := by omega
    have e4 : d = d' := by omega
    rw [e3, e4]
/-! ### tree links -/
theorem treeLinks_eq (n : Network) : treeLinks n = (List.range n.links.length).filter fun (i : Nat) => ((convergedPaths n).map fun p => (if p.via < n.links.length then (p.via : Int) else (-1 : Int))).contains (i : Int) := by
  unfold treeLinks
  apply List.filter_congr
  intro i hi
  rw [List.mem_range] at hi
  rw [Bool.eq_iff_iff]
  unfold isTreeLink
  rw [List.any_eq_true, List.contains_iff_mem, List.mem_map]
  constructor
  · rintro ⟨p, hp, h⟩
    rw [Bool.and_eq_true, beq_iff_eq, decide_eq_true_eq] at h
    refine ⟨p, hp, ?_⟩
    rw [if_pos (by omega), h.1]
  · rintro ⟨p, hp, h⟩
    refine ⟨p, hp, ?_⟩
    rw [Bool.and_eq_true, beq_iff_eq, decide_eq_true_eq]
    by_cases q : p.via < n.links.length
    · rw [if_pos q] at h
      exact ⟨by omega, hi⟩
    · rw [if_neg q] at h
      omega
theorem mem_treeLinks {n : Network} {i : Nat} : i ∈ treeLinks n ↔ isTreeLink n i = true := by
  unfold treeLinks
  rw [List.mem_filter, List.mem_range]
  constructor
  · exact fun h => h.2
  · exact fun h => ⟨(isTreeLink_iff.mp h).1, h⟩
def upLinks (n : Network) : List Nat := (List.range n.links.length).filter fun i => (link n i).up
/-- the far ends of the chosen links at a bridge -/
def nbOver (n : Network) (ch : List Nat) (b : Nat) : List Nat := ((lAt n b).filter fun i => ch.contains i).map fun i => far (link n i) b
theorem nbOver_up (n : Network) (b : Nat) : nbOver n (upLinks n) b = (neighbors n b).map Prod.snd := by
  rw [neighbors_eq, List.map_map]
  unfold nbOver
  have : (lAt n b).filter (fun i => (upLinks n).contains i) = (lAt n b).filter fun i => (link n i).up := by
    apply List.filter_congr
    intro i hi
    rw [Bool.eq_iff_iff, List.contains_iff_mem]
    unfold upLinks
    rw [List.mem_filter, List.mem_range]
    exact ⟨fun h => h.2, fun h => ⟨(mem_lAt.mp hi).1, h⟩⟩
  rw [this]
  rfl
theorem treeNeighbors_eq {n : Network} (W : WF n) (b : Nat) : treeNeighbors n b = ((lAt n b).filter fun i => (treeLinks n).contains i).map fun i => (i, far (link n i) b) := by
  unfold treeNeighbors
  rw [neighbors_eq, List.filter_map, List.filter_filter]
  apply congrArg (List.map _)
  apply List.filter_congr
  intro i hi
  simp only [Function.comp]
  rw [Bool.eq_iff_iff, Bool.and_eq_true, List.contains_iff_mem, mem_treeLinks]
  constructor
  · exact fun h => h.1
  · intro h
    refine ⟨h, ?_⟩
    obtain ⟨v, u, _, ⟨l, hl, hu, _⟩, _⟩ := tree_nb W h
    rw [link_of hl]
    exact hu
theorem nbOver_tree {n : Network} (W : WF n) (b : Nat) : nbOver n (treeLinks n) b = (treeNeighbors n b).map Prod.snd := by
  rw [treeNeighbors_eq W, List.map_map]
  rfl
theorem far_lt {n : Network} (W : WF n) {i : Nat} (h : i < n.links.length) (b : Nat) : far (link n i) b < n.bridgeIds.length := by
  have := W.ends _ (List.mem_of_getElem? (link_get h))
  unfold far
  split
  · exact this.2.1
  · exact this.1
theorem nbOver_lt {n : Network} (W : WF n) {ch : List Nat} {b : Nat} : ∀ x ∈ nbOver n ch b, x < n.bridgeIds.length := by
  intro x hx
  unfold nbOver at hx
  rw [List.mem_map] at hx
  obtain ⟨i, hi, rfl⟩ := hx
  exact far_lt W (mem_lAt.mp (List.mem_filter.mp hi).1).1 b
theorem mem_nb_up {n : Network} {a b : Nat} : b ∈ nbOver n (upLinks n) a ↔ UE n a b := by
  rw [nbOver_up, List.mem_map]
  constructor
  · rintro ⟨⟨i, u⟩, h, rfl⟩
    exact ⟨i, mem_neighbors.mp h⟩
  · rintro ⟨i, h⟩
    exact ⟨(i, b), mem_neighbors.mpr h, rfl⟩
theorem mem_nb_tree {n : Network} (W : WF n) {a b : Nat} : b ∈ nbOver n (treeLinks n) a ↔ TreeE n a b := by
  rw [nbOver_tree W, List.mem_map]
  constructor
  · rintro ⟨⟨i, u⟩, h, rfl⟩
    exact ⟨i, mem_treeNeighbors.mp h⟩
  · rintro ⟨i, h⟩
    exact ⟨(i, b), mem_treeNeighbors.mpr h, rfl⟩
theorem Reach.iff {R S : Nat → Nat → Prop} (h : ∀ a b, R a b ↔ S a b) {v u : Nat} : Reach R v u ↔ Reach S v u :=
  ⟨Reach.mono fun a b => (h a b).mp, Reach.mono fun a b => (h a b).mpr⟩
/-! ### how many neighbours there are -/
theorem count_ends {n : Network} (bs : List Nat) (nd : bs.Nodup) (y : Link × Nat) : (bs.filter fun b => (if y.1.up = false then none else if y.1.endA = b then some (y.2, y.1.endB) else if y.1.endB = b then some (y.2, y.1.endA) else none : Option (Nat × Nat)).isSome).length ≤ 2 := by
  have h : ((bs.filter fun b => (if y.1.up = false then none else if y.1.endA = b then some (y.2, y.1.endB) else if y.1.endB = b then some (y.2, y.1.endA) else none : Option (Nat × Nat)).isSome)).length ≤ ([y.1.endA, y.1.endB] : List Nat).length := by
    refine List.Nodup.length_le_of_subset (nd.filter _) fun b hb => ?_
    rw [List.mem_filter] at hb
    obtain ⟨_, hb⟩ := hb
    split at hb
    · cases hb
    · split at hb
      · rename_i h
        simp [h]
      · split at hb
        · rename_i h
          simp [h]
        · cases hb
  exact h
theorem sum_filterMap {α β : Type} (f : Nat → α → Option β) (c : Nat) (bs : List Nat) (h : ∀ y, (bs.filter fun b => (f b y).isSome).length ≤ c) : ∀ l : List α, (bs.map fun b => (l.filterMap (f b)).length).sum ≤ c * l.length
  | [] => by
    have : (bs.map fun b => (([] : List α).filterMap (f b)).length) = bs.map fun _ => 0 := rfl
    rw [this]
    have : ∀ bs : List Nat, (bs.map fun _ => 0).sum = 0 := fun bs => by induction bs with | nil => rfl | cons _ _ ih => simpa using ih
    rw [this]
    exact Nat.zero_le _
  | y :: l => by
    have ih := sum_filterMap f c bs h l
    have e : ∀ bs : List Nat, (bs.map fun b => ((y :: l).filterMap (f b)).length).sum = (bs.filter fun b => (f b y).isSome).length + (bs.map fun b => (l.filterMap (f b)).length).sum := by
      intro bs
      induction bs with
      | nil => rfl
      | cons b bs ihb =>
        rw [List.map_cons, List.sum_cons, ihb, List.map_cons, List.sum_cons]
        cases q : f b y with
        | none => rw [List.filterMap_cons_none q, List.filter_cons_of_neg (by simp [q])]; omega
        | some z => rw [List.filterMap_cons_some q, List.filter_cons_of_pos (by simp [q])]; simp only [List.length_cons]; omega
    rw [e, List.length_cons, Nat.mul_add]
    have := h y
    omega
theorem degrees (n : Network) : ((List.range n.bridgeIds.length).map fun b => (neighbors n b).length).sum ≤ 2 * n.links.length := by
  have := sum_filterMap (fun (b : Nat) (y : Link × Nat) => if y.1.up = false then none else if y.1.endA = b then some (y.2, y.1.endB) else if y.1.endB = b then some (y.2, y.1.endA) else none) 2 (List.range n.bridgeIds.length) (fun y => count_ends (n := n) _ List.nodup_range y) n.links.zipIdx
  rw [List.length_zipIdx] at this
  exact this
theorem left_le (n : Network) : left (fun b => (neighbors n b).length) n.bridgeIds.length [] ≤ 2 * n.links.length := by
  unfold left
  have : (List.range n.bridgeIds.length).filter (fun b => !(([] : Vs).any fun z => z.1 == b)) = List.range n.bridgeIds.length := by simp
  rw [this]
  exact degrees n
/-! ### connected bridges -/
theorem connected_iff {n : Network} (W : WF n) {v b : Nat} (hv : v < n.bridgeIds.length) : b ∈ connectedBridges n v ↔ Reach (UE n) v b := by
  obtain ⟨m, r, l0, l1, l2, l3⟩ := vis_runs (N := n.bridgeIds.length) (v := v) (next := fun x _ => neighbors n x) (deg := fun b => (neighbors n b).length) (fun _ _ => Nat.le_refl _) (fun b j y hy => by
    have : Nb n b y.1 y.2 := mem_neighbors.mp hy
    exact (this.lt W).2.1) 25 (vs := []) (q := [(v, n.links.length)]) (by have := left_le n; have := W.linksLe; simp only [List.length_singleton]; omega)
    ⟨by simp, by simpa using hv, fun y hy => by
      have : y = (v, n.links.length) := by simpa using hy
      subst this
      exact .here, by simp⟩ (by simp)
  have e : traverse n (fun x _ => neighbors n x) (4 * maxLinks * maxBridges) [] [(v, n.links.length)] = r := traverse_loop m _ (Nat.le_trans l0 (by decide)) l1
  unfold connectedBridges
  rw [e]
  have rr : ∀ a b, (∃ i j, (i, b) ∈ (fun x (_ : Nat) => neighbors n x) a j) ↔ UE n a b := fun a b =>
    ⟨fun ⟨i, _, h⟩ => ⟨i, mem_neighbors.mp h⟩, fun ⟨i, h⟩ => ⟨i, 0, mem_neighbors.mpr h⟩⟩
  constructor
  · intro h
    obtain ⟨y, hy, rfl⟩ := List.mem_map.mp h
    exact (Reach.iff rr).mp (l2.reach y (by simpa using hy))
  · intro h
    induction h with
    | here => simpa using l2.start
    | step _ q ih =>
      obtain ⟨i, q⟩ := q
      obtain ⟨y, hy, rfl⟩ := List.mem_map.mp ih
      exact l3 y hy _ (mem_neighbors.mpr q)
/-- the trails over the links that are up: sorted, their bridges are the connected ones -/
theorem conn_sorted {n : Network} (W : WF n) {v : Nat} (hv : v < n.bridgeIds.length) {ks ys : List Nat} (nd : ks.Nodup) (lt : ∀ b ∈ ks, b < n.bridgeIds.length) (hk : ∀ b, b ∈ ks ↔ Reach (UE n) v b) (hp : ys.Perm ks) (hs : ys.Pairwise (· ≤ ·)) :
    ys = (List.range (bridgeCount n)).filter fun x => (connectedBridges n v).contains x := by
  have h1 : ys.Perm ((List.range (bridgeCount n)).filter fun x => (connectedBridges n v).contains x) := by
    refine hp.trans ((List.perm_ext_iff_of_nodup nd (List.nodup_range.filter _)).mpr fun b => ?_)
    rw [hk, List.mem_filter, List.mem_range, List.contains_iff_mem, connected_iff W hv]
    exact ⟨fun h => ⟨reach_lt W hv h, h⟩, fun h => h.2⟩
  have h2 : ((List.range (bridgeCount n)).filter fun x => (connectedBridges n v).contains x).Pairwise (· ≤ ·) := by
    refine List.Pairwise.sublist List.filter_sublist ?_
    exact List.pairwise_lt_range.imp fun h => Nat.le_of_lt h
  exact h1.eq_of_pairwise (fun a b _ _ x y => Nat.le_antisymm x y) hs h2
end TB
end
section
set_option autoImplicit false
namespace TB
open Su200
/-! ### sizes in the trails' loop -/
structure Sz (tr : Trails) (pd : List Nat) : Prop where
  q : pd.length ≤ tr.length
  t : ∀ y ∈ tr, y.2.length ≤ tr.length
  sub : ∀ b ∈ pd, b ∈ keys tr
theorem trail_len {t : Trails} {q : List Nat} (s : Sz t q) (b : Nat) : (trail t b).length ≤ t.length := by
  unfold trail
  cases e : t.find? (fun y => y.1 == b) with
  | none => exact Nat.zero_le _
  | some y => exact s.t y (List.mem_of_find?_eq_some e)
theorem addNb_len (h : Nat) (s : Trails × List Nat) (x : Nat) : s.1.length ≤ (addNb h s x).1.length := by
  unfold addNb
  split
  · exact Nat.le_refl _
  · simp
theorem addNb_sz {h x : Nat} {s : Trails × List Nat} (z : Sz s.1 s.2) : Sz (addNb h s x).1 (addNb h s x).2 := by
  unfold addNb
  split
  · exact z
  · refine ⟨by simpa using z.q, fun y hy => ?_, fun b hb => ?_⟩
    · rw [List.mem_append, List.mem_singleton] at hy
      rw [List.length_append, List.length_singleton]
      rcases hy with hy | rfl
      · exact Nat.le_succ_of_le (z.t y hy)
      · simp only [List.length_append, List.length_singleton]
        exact Nat.succ_le_succ (trail_len z h)
    · have kk : keys (s.1 ++ [(x, trail s.1 h ++ [x])]) = keys s.1 ++ [x] := by simp [keys]
      rw [List.mem_append, List.mem_singleton] at hb
      show b ∈ keys (s.1 ++ [(x, trail s.1 h ++ [x])])
      rw [kk, List.mem_append, List.mem_singleton]
      exact hb.imp (z.sub b) id
theorem adds_len (h : Nat) : ∀ (l : List Nat) (s : Trails × List Nat), s.1.length ≤ (l.foldl (addNb h) s).1.length
  | [], s => Nat.le_refl _
  | x :: l, s => Nat.le_trans (addNb_len h s x) (adds_len h l _)
theorem adds_sz (h : Nat) : ∀ (l : List Nat) (s : Trails × List Nat), Sz s.1 s.2 → Sz (l.foldl (addNb h) s).1 (l.foldl (addNb h) s).2
  | [], _, z => z
  | _ :: l, _, z => adds_sz h l _ (addNb_sz z)
theorem adds_take (h : Nat) (l : List Nat) (s : Trails × List Nat) (i : Nat) : ((l.take i).foldl (addNb h) s).1.length ≤ (l.foldl (addNb h) s).1.length := by
  have := adds_len h (l.drop i) ((l.take i).foldl (addNb h) s)
  rw [← List.foldl_append, List.take_append_drop] at this
  exact this
theorem loop_len {nb : Nat → List Nat} : ∀ (m : Nat) {t r : Trails} {q : List Nat}, Loop (bfsTurn nb) m (t, q) (r, []) → t.length ≤ r.length
  | 0, t, r, q, h => by
    obtain ⟨_, h⟩ := h
    obtain ⟨rfl, _⟩ := Prod.mk.inj h
    exact Nat.le_refl _
  | m + 1, t, r, q, h => by
    obtain ⟨s, h1, h2⟩ := h
    cases q with
    | nil => cases h1
    | cons x q =>
      cases Option.some.inj h1
      exact Nat.le_trans (adds_len x (nb x) (t, q)) (loop_len m h2)
/-! ### the first round that changes nothing -/
theorem rounds_first {n : Network} {i : Nat} (hi : i < n.bridgeIds.length) (h : pk n (i + 1) = pk n i) (hj : ∀ j, j < i → pk n (j + 1) ≠ pk n j) : roundsToConverge n = i := by
  unfold roundsToConverge
  have : (List.range (bridgeCount n + 1)).find? (fun k => rounds n k (initialPaths n) == rounds n (k + 1) (initialPaths n)) = some i := by
    rw [List.find?_range_eq_some]
    refine ⟨beq_iff_eq.mpr (show pk n i = pk n (i + 1) from h.symm), List.mem_range.mpr (show i < bridgeCount n + 1 from by unfold bridgeCount; omega), fun j hji => ?_⟩
    have e : (rounds n j (initialPaths n) == rounds n (j + 1) (initialPaths n)) = false := beq_eq_false_iff_ne.mpr fun q => hj j hji (show pk n (j + 1) = pk n j from q.symm)
    rw [e]
    rfl
  rw [this]
  rfl
theorem rounds_last {n : Network} (hj : ∀ j, j < n.bridgeIds.length → pk n (j + 1) ≠ pk n j) : roundsToConverge n = n.bridgeIds.length := by
  unfold roundsToConverge
  cases e : (List.range (bridgeCount n + 1)).find? (fun k => rounds n k (initialPaths n) == rounds n (k + 1) (initialPaths n)) with
  | none => rfl
  | some i =>
    rw [List.find?_range_eq_some] at e
    obtain ⟨h1, h2, _⟩ := e
    rw [List.mem_range] at h2
    have h1 : pk n i = pk n (i + 1) := beq_iff_eq.mp h1
    have : i = n.bridgeIds.length := by
      by_cases q : i < n.bridgeIds.length
      · exact absurd h1.symm (hj i q)
      · unfold bridgeCount at h2
        omega
    exact this
def viaZ (n : Network) (i : Nat) : Int := if i < n.links.length then (i : Int) else -1
/-! ### trails, put to use -/
theorem trails_up {n : Network} (W : WF n) {v : Nat} (hv : v < n.bridgeIds.length) : ∃ m r, Loop (bfsTurn (nbOver n (upLinks n))) m ([(v, [v])], [v]) (r, []) ∧ r.length ≤ 7 ∧
    ∀ ys : List Nat, ys.Perm (keys r) → ys.Pairwise (· ≤ ·) → ys = (List.range (bridgeCount n)).filter fun x => (connectedBridges n v).contains x := by
  obtain ⟨m, r, h1, h2, h3, h4, _⟩ := bfs_start (N := n.bridgeIds.length) (v := v) (nb := nbOver n (upLinks n)) (fun b x hx => nbOver_lt W x hx) hv
  refine ⟨m, r, h1, ?_, fun ys hp hs => conn_sorted W hv h2 h3 (fun b => (h4 b).trans (Reach.iff fun a b => mem_nb_up)) hp hs⟩
  have := nodup_lt h2 h3
  have := W.idsLe
  have e : (keys r).length = r.length := by simp [keys]
  omega
theorem trails_tree {n : Network} (W : WF n) {v : Nat} (hv : v < n.bridgeIds.length) : ∃ m r, Loop (bfsTurn (nbOver n (treeLinks n))) m ([(v, [v])], [v]) (r, []) ∧ r.length ≤ 7 ∧
    ∀ w, w ∈ connectedBridges n v → w ∈ keys r ∧ treePath n v w = some (trail r w) ∧ (trail r w).length ≤ 7 := by
  obtain ⟨m, r, h1, h2, h3, h4, h5⟩ := bfs_start (N := n.bridgeIds.length) (v := v) (nb := nbOver n (treeLinks n)) (fun b x hx => nbOver_lt W x hx) hv
  refine ⟨m, r, h1, ?_, fun w hw => ?_⟩
  · have := nodup_lt h2 h3
    have := W.idsLe
    have e : (keys r).length = r.length := by simp [keys]
    omega
  · have hw := (spans W hv).mp ((connected_iff W hv).mp hw)
    have hk : w ∈ keys r := (h4 w).mpr ((Reach.iff fun a b => mem_nb_tree W).mpr hw)
    have p := h5 w hk
    have lk : ∀ l : List Nat, Lnk (fun a b => b ∈ nbOver n (treeLinks n) a) l → Lnk (TreeE n) l := by
      intro l
      induction l with
      | nil => exact fun h => h
      | cons a l ih =>
        cases l with
        | nil => exact fun h => h
        | cons b l => exact fun h => ⟨(mem_nb_tree W).mp h.1, ih h.2⟩
    have p' : Path (TreeE n) v w (trail r w) := ⟨p.hd, p.lt, lk _ p.lk, p.nd⟩
    refine ⟨hk, treePath_of W hv p', ?_⟩
    have := nodup_lt p'.nd (path_lt W hv p'.hd p'.lk)
    have := W.idsLe
    omega
theorem no_path {n : Network} (W : WF n) {v w : Nat} (hv : v < n.bridgeIds.length) (h : w ∉ connectedBridges n v) : treePath n v w = none :=
  treePath_none W fun q => h ((connected_iff W hv).mpr ((spans W hv).mpr q))
end TB
end
section
set_option autoImplicit false
namespace TB
open Su200
/-! ### frames -/
def vrow (n : Network) (y : Nat × Nat) : List Int := [(y.1 : Int), viaZ n y.2]
/-- what links_for hands back: e the table's entry, via as the program has it -/
def wantedL (n : Network) (tree : List Nat) (b : Nat) (via : Int) : List Nat := (lAt n b).filter fun i => tree.contains i && !decide ((i : Int) = via)
def lFor (n : Network) (tree : List Nat) (e : Option Int) (b : Nat) (via : Int) : List Nat := match e with
  | some z => (wantedL n tree b via).filter fun i => decide ((i : Int) = z)
  | none => wantedL n tree b via
theorem eq_viaZ {n : Network} {i j : Nat} (h : i < n.links.length) : decide ((i : Int) = viaZ n j) = (i == j) := by
  rw [Bool.eq_iff_iff, decide_eq_true_eq, beq_iff_eq]
  unfold viaZ
  by_cases q : j < n.links.length
  · rw [if_pos q]
    omega
  · rw [if_neg q]
    omega
theorem forward_eq {d : Lan} (W : WF d.network) (dest b via : Nat) : forwardingLinks d dest b via = (lFor d.network (treeLinks d.network) ((tableEntry d b dest).map (viaZ d.network)) b (viaZ d.network via)).map fun i => (i, far (link d.network i) b) := by
  have base : ∀ p : Nat → Bool, ((treeNeighbors d.network b).filter fun z => p z.1) = ((lAt d.network b).filter fun i => (treeLinks d.network).contains i && p i).map fun i => (i, far (link d.network i) b) := by
    intro p
    rw [treeNeighbors_eq W, List.filter_map, List.filter_filter]
    apply congrArg (List.map _)
    apply List.filter_congr
    intro i _
    simp only [Function.comp]
    rw [Bool.and_comm]
  have hw : ((lAt d.network b).filter fun i => (treeLinks d.network).contains i && i != via) = wantedL d.network (treeLinks d.network) b (viaZ d.network via) := by
    unfold wantedL
    apply List.filter_congr
    intro i hi
    rw [eq_viaZ (mem_lAt.mp hi).1]
    rfl
  unfold forwardingLinks
  cases e : tableEntry d b dest with
  | none =>
    show ((treeNeighbors d.network b).filter fun z => z.1 != via) = _
    rw [base fun i => i != via, hw]
    rfl
  | some j =>
    show ((treeNeighbors d.network b).filter fun z => z.1 == j && z.1 != via) = _
    rw [base fun i => i == j && i != via]
    apply congrArg (List.map _)
    show _ = (wantedL d.network (treeLinks d.network) b (viaZ d.network via)).filter fun (i : Nat) => decide ((i : Int) = viaZ d.network j)
    rw [← hw, List.filter_filter]
    apply List.filter_congr
    intro i hi
    rw [eq_viaZ (mem_lAt.mp hi).1]
    cases (treeLinks d.network).contains i <;> cases i == j <;> cases i != via <;> rfl
theorem forward_deg (d : Lan) (dest b via : Nat) : (forwardingLinks d dest b via).length ≤ (neighbors d.network b).length := by
  have h : (treeNeighbors d.network b).length ≤ (neighbors d.network b).length := List.length_filter_le _ _
  unfold forwardingLinks
  cases tableEntry d b dest with
  | none => exact Nat.le_trans (List.length_filter_le _ _) h
  | some j => exact Nat.le_trans (List.length_filter_le _ _) h
theorem forward_lt {d : Lan} (W : WF d.network) (dest b via : Nat) : ∀ y ∈ forwardingLinks d dest b via, y.2 < d.network.bridgeIds.length := by
  intro y hy
  have : y ∈ treeNeighbors d.network b := by
    unfold forwardingLinks at hy
    cases e : tableEntry d b dest with
    | none =>
      rw [e] at hy
      exact (List.mem_filter.mp hy).1
    | some j =>
      rw [e] at hy
      exact (List.mem_filter.mp hy).1
  exact ((mem_treeNeighbors (i := y.1) (u := y.2)).mp this).1.lt W |>.2.1
theorem visits_loop {d : Lan} (W : WF d.network) {dest v : Nat} (hv : v < d.network.bridgeIds.length) : ∃ m, m ≤ 25 ∧ Loop (visTurn (forwardingLinks d dest)) m ([], [(v, d.network.links.length)]) (frameVisits d dest v, []) ∧
    (frameVisits d dest v).length ≤ 7 ∧ ∀ y ∈ frameVisits d dest v, y.1 < d.network.bridgeIds.length := by
  obtain ⟨m, r, l0, l1, l2, _⟩ := vis_runs (N := d.network.bridgeIds.length) (v := v) (next := forwardingLinks d dest) (deg := fun b => (neighbors d.network b).length) (fun b j => forward_deg d dest b j) (fun b j y hy => forward_lt W dest b j y hy)
    25 (vs := []) (q := [(v, d.network.links.length)]) (by have := left_le d.network; have := W.linksLe; simp only [List.length_singleton]; omega)
    ⟨by simp, by simpa using hv, fun y hy => by
      have : y = (v, d.network.links.length) := by simpa using hy
      subst this
      exact .here, by simp⟩ (by simp)
  have e : frameVisits d dest v = r := traverse_loop m _ (Nat.le_trans l0 (by decide)) l1
  rw [e]
  refine ⟨m, l0, l1, ?_, fun y hy => l2.lt y (by simpa using hy)⟩
  have h1 := nodup_lt l2.nd (m := d.network.bridgeIds.length) (fun x hx => by
    obtain ⟨y, hy, rfl⟩ := List.mem_map.mp hx
    exact l2.lt y (by simpa using hy))
  rw [List.length_map] at h1
  have := W.idsLe
  omega
theorem vloop_q {next : Nat → Nat → Vs} : ∀ (m : Nat) {vs q r : Vs}, Loop (visTurn next) m (vs, q) (r, []) → q.length ≤ m
  | 0, vs, q, r, h => by
    obtain ⟨_, h⟩ := h
    obtain ⟨_, rfl⟩ := Prod.mk.inj h
    exact Nat.le_refl _
  | m + 1, vs, q, r, h => by
    obtain ⟨t, h1, h2⟩ := h
    cases q with
    | nil => exact Nat.zero_le _
    | cons y q =>
      cases Option.some.inj h1
      by_cases c : vs.any (fun z => z.1 == y.1) = true
      · rw [if_pos c] at h2
        have := vloop_q m h2
        simpa using this
      · rw [if_neg c] at h2
        have := vloop_q m h2
        simp only [List.length_append, List.length_map] at this
        simp only [List.length_cons]
        omega
theorem vloop_vs {next : Nat → Nat → Vs} : ∀ (m : Nat) {vs q r : Vs}, Loop (visTurn next) m (vs, q) (r, []) → vs.length ≤ r.length
  | 0, vs, q, r, h => by
    obtain ⟨_, h⟩ := h
    obtain ⟨rfl, _⟩ := Prod.mk.inj h
    exact Nat.le_refl _
  | m + 1, vs, q, r, h => by
    obtain ⟨t, h1, h2⟩ := h
    cases q with
    | nil => cases h1
    | cons y q =>
      cases Option.some.inj h1
      by_cases c : vs.any (fun z => z.1 == y.1) = true
      · rw [if_pos c] at h2
        exact vloop_vs m h2
      · rw [if_neg c] at h2
        have := vloop_vs m h2
        simp only [List.length_append, List.length_singleton] at this
        omega
/-! ### what is learned -/
def learn1 (source : Nat) (h : List (Nat × Nat × Nat)) (y : Nat × Nat) : List (Nat × Nat × Nat) := (y.1, source, y.2) :: (h.filter fun z => !(z.1 == y.1 && z.2.1 == source))
theorem learn_eq (d : Lan) (source : Nat) (visits : List (Nat × Nat)) : learn d source visits = { d with learned := visits.foldl (learn1 source) d.learned } := rfl
def entryOf (h : List (Nat × Nat × Nat)) (v host : Nat) : Option Nat := (h.find? fun y => y.1 == v && y.2.1 == host).map fun y => y.2.2
theorem tableEntry_eq (d : Lan) (v host : Nat) : tableEntry d v host = entryOf d.learned v host := rfl
def cnt (h : List (Nat × Nat × Nat)) (v : Nat) : Nat := (h.filter fun y => y.1 == v).length
theorem entry_learn1 (source : Nat) (h : List (Nat × Nat × Nat)) (y : Nat × Nat) (v host : Nat) : entryOf (learn1 source h y) v host = if v = y.1 ∧ host = source then some y.2 else entryOf h v host := by
  unfold entryOf learn1
  by_cases c : v = y.1 ∧ host = source
  · obtain ⟨rfl, rfl⟩ := c
    rw [if_pos ⟨rfl, rfl⟩, List.find?_cons_of_pos (by simp)]
    rfl
  · rw [if_neg c, List.find?_cons_of_neg (by
      simp only [Bool.and_eq_true, beq_iff_eq]
      exact fun q => c ⟨q.1.symm, q.2.symm⟩)]
    congr 1
    rw [List.find?_filter]
    apply congrArg (fun f => List.find? f h)
    funext z
    rw [Bool.eq_iff_iff]
    simp only [Bool.and_eq_true, beq_iff_eq, Bool.not_eq_true', Bool.and_eq_false_iff, beq_eq_false_iff_ne, ne_eq, decide_eq_true_eq]
    constructor
    · exact fun q => q.2
    · intro q
      refine ⟨?_, q⟩
      by_cases h1 : z.1 = y.1
      · exact .inr fun h2 => c ⟨q.1.symm.trans h1, q.2.symm.trans h2⟩
      · exact .inl h1
/-- the learned entries: keys once, bridges and hosts in their ranges -/
structure LearnOk (N : Nat) (h : List (Nat × Nat × Nat)) : Prop where
  nd : (h.map fun y => (y.1, y.2.1)).Nodup
  lt : ∀ y ∈ h, y.1 < N ∧ y.2.1 ≤ 99
theorem learn1_ok {N : Nat} {h : List (Nat × Nat × Nat)} (o : LearnOk N h) {source : Nat} {y : Nat × Nat} (hy : y.1 < N) (hs : source ≤ 99) : LearnOk N (learn1 source h y) := by
  unfold learn1
  refine ⟨?_, fun z hz => ?_⟩
  · rw [List.map_cons, List.nodup_cons]
    refine ⟨fun q => ?_, List.Nodup.sublist (List.Sublist.map _ List.filter_sublist) o.nd⟩
    obtain ⟨z, hz, e⟩ := List.mem_map.mp q
    obtain ⟨_, hz⟩ := List.mem_filter.mp hz
    obtain ⟨e1, e2⟩ := Prod.mk.inj e
    simp only [e1, e2, beq_self_eq_true, Bool.and_self, Bool.not_true] at hz
    exact Bool.noConfusion hz
  · rcases List.mem_cons.mp hz with rfl | hz
    · exact ⟨hy, hs⟩
    · exact o.lt z (List.mem_filter.mp hz).1
theorem key_count {α κ : Type} [DecidableEq κ] (key : α → κ) (k : κ) : ∀ {l : List α}, (l.map key).Nodup → (l.filter fun y => !decide (key y = k)).length + (if k ∈ l.map key then 1 else 0) = l.length
  | [], _ => rfl
  | y :: l, nd => by
    obtain ⟨n1, n2⟩ := List.nodup_cons.mp nd
    have ih := key_count key k n2
    by_cases e : key y = k
    · subst e
      rw [List.filter_cons_of_neg (by simp), if_pos (by simp)]
      rw [if_neg n1] at ih
      simp only [List.length_cons]
      omega
    · rw [List.filter_cons_of_pos (by simpa using e)]
      have : (k ∈ (y :: l).map key) ↔ k ∈ l.map key := by
        rw [List.map_cons, List.mem_cons]
        exact ⟨fun h => h.resolve_left fun q => e q.symm, .inr⟩
      simp only [this, List.length_cons]
      omega
theorem entry_isSome {h : List (Nat × Nat × Nat)} {v host : Nat} : (entryOf h v host).isSome = true ↔ host ∈ (h.filter fun y => y.1 == v).map fun y => y.2.1 := by
  unfold entryOf
  rw [Option.isSome_map, List.find?_isSome, List.mem_map]
  constructor
  · rintro ⟨y, hy, q⟩
    rw [Bool.and_eq_true, beq_iff_eq, beq_iff_eq] at q
    exact ⟨y, List.mem_filter.mpr ⟨hy, by rw [beq_iff_eq]; exact q.1⟩, q.2⟩
  · rintro ⟨y, hy, rfl⟩
    obtain ⟨hy, q⟩ := List.mem_filter.mp hy
    exact ⟨y, hy, by rw [q]; simp⟩
theorem hosts_nodup {N : Nat} {h : List (Nat × Nat × Nat)} (o : LearnOk N h) (v : Nat) : ((h.filter fun y => y.1 == v).map fun y => y.2.1).Nodup := by
  have nd := o.nd
  clear o
  induction h with
  | nil => simp
  | cons y h ih =>
    obtain ⟨n1, n2⟩ := List.nodup_cons.mp nd
    by_cases e : y.1 = v
    · rw [List.filter_cons_of_pos (by simpa using e), List.map_cons, List.nodup_cons]
      refine ⟨fun q => n1 ?_, ih n2⟩
      obtain ⟨z, hz, ez⟩ := List.mem_map.mp q
      obtain ⟨hz, q⟩ := List.mem_filter.mp hz
      rw [beq_iff_eq] at q
      exact List.mem_map.mpr ⟨z, hz, by rw [q, ← e, ez]⟩
    · rw [List.filter_cons_of_neg (by simpa using e)]
      exact ih n2
theorem cnt_learn1 {N : Nat} {h : List (Nat × Nat × Nat)} (o : LearnOk N h) (source : Nat) (y : Nat × Nat) (v : Nat) :
    cnt (learn1 source h y) v = if v = y.1 ∧ (entryOf h v source).isSome = false then cnt h v + 1 else cnt h v := by
  unfold cnt learn1
  by_cases e : y.1 = v
  · have e' : v = y.1 := e.symm
    subst e'
    rw [List.filter_cons_of_pos (by simp), List.filter_filter]
    have e1 : (h.filter fun z => (z.1 == y.1) && !(z.1 == y.1 && z.2.1 == source)) = (h.filter fun z => z.1 == y.1).filter fun z => !decide (z.2.1 = source) := by
      rw [List.filter_filter]
      apply List.filter_congr
      intro z _
      cases q : z.1 == y.1 with
      | false => simp
      | true =>
        rw [Bool.eq_iff_iff]
        simp
    rw [e1]
    have k := key_count (fun z : Nat × Nat × Nat => z.2.1) source (hosts_nodup o y.1)
    simp only [List.length_cons]
    by_cases c : (entryOf h y.1 source).isSome = true
    · rw [if_pos (entry_isSome.mp c)] at k
      rw [if_neg (by rw [c]; simp)]
      omega
    · rw [if_neg fun q => c (entry_isSome.mpr q)] at k
      rw [if_pos ⟨trivial, by simpa using c⟩]
      omega
  · rw [List.filter_cons_of_neg (by simpa using e), if_neg fun q => e q.1.symm, List.filter_filter]
    congr 1
    apply List.filter_congr
    intro z _
    cases q : z.1 == v with
    | false => rfl
    | true =>
      rw [beq_iff_eq] at q
      have : (z.1 == y.1) = false := by rw [q]; simpa using Ne.symm e
      rw [this]
      rfl
theorem cnt_le {N : Nat} {h : List (Nat × Nat × Nat)} (o : LearnOk N h) (v : Nat) : cnt h v ≤ 100 := by
  have := nodup_lt (hosts_nodup o v) (m := 100) (fun x hx => by
    obtain ⟨y, hy, rfl⟩ := List.mem_map.mp hx
    have := (o.lt y (List.mem_filter.mp hy).1).2
    omega)
  rw [List.length_map] at this
  exact this
theorem cnt_sum : ∀ {N : Nat} {h : List (Nat × Nat × Nat)}, (∀ y ∈ h, y.1 < N) → ((List.range N).map (cnt h)).sum = h.length
  | N, [], _ => by
    have : (List.range N).map (cnt []) = (List.range N).map fun _ => 0 := rfl
    rw [this]
    have z : ∀ l : List Nat, (l.map fun _ => 0).sum = 0 := fun l => by induction l with | nil => rfl | cons _ _ ih => simpa using ih
    exact z _
  | N, y :: h, hy => by
    have ih := cnt_sum (N := N) (h := h) fun z hz => hy z (List.mem_cons_of_mem _ hz)
    have hlt := hy y (by simp)
    have e : ∀ l : List Nat, l.Nodup → (l.map (cnt (y :: h))).sum = (l.map (cnt h)).sum + if y.1 ∈ l then 1 else 0 := by
      intro l
      induction l with
      | nil => intro _; rfl
      | cons a l ihl =>
        intro nd
        obtain ⟨n1, n2⟩ := List.nodup_cons.mp nd
        rw [List.map_cons, List.sum_cons, List.map_cons, List.sum_cons, ihl n2]
        by_cases q : y.1 = a
        · subst q
          rw [if_neg n1, if_pos (by simp)]
          have : cnt (y :: h) y.1 = cnt h y.1 + 1 := by
            unfold cnt
            rw [List.filter_cons_of_pos (by simp)]
            rfl
          omega
        · have : cnt (y :: h) a = cnt h a := by
            unfold cnt
            rw [List.filter_cons_of_neg (by simpa using q)]
          have m : (y.1 ∈ a :: l) ↔ y.1 ∈ l := by
            rw [List.mem_cons]
            exact ⟨fun z => z.resolve_left q, .inr⟩
          simp only [m, this]
          omega
    rw [e _ List.nodup_range, ih, if_pos (List.mem_range.mpr hlt)]
    rfl
end TB
end
section
set_option autoImplicit false
namespace TB
open Su200
/-! ### the whole state -/
structure HostsOk (N : Nat) (hs : List (Nat × Nat)) : Prop where
  nd : (hs.map Prod.fst).Nodup
  lt : ∀ y ∈ hs, y.1 ≤ 99 ∧ y.2 < N
structure LanOk (d : Lan) : Prop where
  wf : WF d.network
  hosts : HostsOk d.network.bridgeIds.length d.hosts
  learned : LearnOk d.network.bridgeIds.length d.learned
theorem learnOk_nil (N : Nat) : LearnOk N [] := ⟨by simp, fun y h => by cases h⟩
theorem lanOk_empty : LanOk empty := ⟨⟨by decide, by decide, by simp [empty], fun l h => by cases h⟩, ⟨by simp [empty], fun y h => by cases h⟩, learnOk_nil _⟩
theorem hosts_len {N : Nat} {hs : List (Nat × Nat)} (o : HostsOk N hs) : hs.length ≤ 100 := by
  have := nodup_lt o.nd (m := 100) (fun x hx => by
    obtain ⟨y, hy, rfl⟩ := List.mem_map.mp hx
    have := (o.lt y hy).1
    omega)
  rw [List.length_map] at this
  exact this
def hostOf (hs : List (Nat × Nat)) (host : Nat) : Option Nat := (hs.find? fun y => y.1 == host).map fun y => y.2
theorem hostBridge_eq (d : Lan) (host : Nat) : hostBridge d host = hostOf d.hosts host := rfl
theorem hostOf_lt {N : Nat} {hs : List (Nat × Nat)} (o : HostsOk N hs) {host v : Nat} (h : hostOf hs host = some v) : v < N ∧ host ≤ 99 := by
  unfold hostOf at h
  rw [Option.map_eq_some_iff] at h
  obtain ⟨y, hy, rfl⟩ := h
  have h1 := List.mem_of_find?_eq_some hy
  have h2 := List.find?_some hy
  have h2 : y.1 = host := by simpa using h2
  have := o.lt y h1
  exact ⟨this.2, h2 ▸ this.1⟩
def place (hs : List (Nat × Nat)) (host v : Nat) : List (Nat × Nat) := (host, v) :: hs.filter fun y => y.1 != host
theorem host_place (hs : List (Nat × Nat)) (host v x : Nat) : hostOf (place hs host v) x = if x = host then some v else hostOf hs x := by
  unfold hostOf place
  by_cases c : x = host
  · subst c
    rw [if_pos rfl, List.find?_cons_of_pos (by simp)]
    rfl
  · rw [if_neg c, List.find?_cons_of_neg (by simpa using Ne.symm c)]
    congr 1
    rw [List.find?_filter]
    apply congrArg (fun f => List.find? f hs)
    funext z
    rw [Bool.eq_iff_iff]
    simp only [Bool.and_eq_true, bne_iff_ne, ne_eq, beq_iff_eq, decide_eq_true_eq]
    constructor
    · exact fun q => q.2
    · exact fun q => ⟨fun e => c (q.symm.trans e), q⟩
theorem place_ok {N : Nat} {hs : List (Nat × Nat)} (o : HostsOk N hs) {host v : Nat} (hh : host ≤ 99) (hv : v < N) : HostsOk N (place hs host v) := by
  unfold place
  refine ⟨?_, fun z hz => ?_⟩
  · rw [List.map_cons, List.nodup_cons]
    refine ⟨fun q => ?_, List.Nodup.sublist (List.Sublist.map _ List.filter_sublist) o.nd⟩
    obtain ⟨z, hz, e⟩ := List.mem_map.mp q
    obtain ⟨_, hz⟩ := List.mem_filter.mp hz
    rw [bne_iff_ne] at hz
    exact hz e
  · rcases List.mem_cons.mp hz with rfl | hz
    · exact ⟨hh, hv⟩
    · exact o.lt z (List.mem_filter.mp hz).1
theorem place_len {N : Nat} {hs : List (Nat × Nat)} (o : HostsOk N hs) (host v : Nat) : (place hs host v).length = if (hostOf hs host).isSome = true then hs.length else hs.length + 1 := by
  unfold place
  have e : (hs.filter fun y => y.1 != host) = hs.filter fun y => !decide (y.1 = host) := by
    apply List.filter_congr
    intro y _
    rw [Bool.eq_iff_iff, bne_iff_ne]
    simp
  have k := key_count Prod.fst host o.nd
  have hm : (hostOf hs host).isSome = true ↔ host ∈ hs.map Prod.fst := by
    unfold hostOf
    rw [Option.isSome_map, List.find?_isSome, List.mem_map]
    constructor
    · rintro ⟨y, hy, q⟩
      exact ⟨y, hy, by simpa using q⟩
    · rintro ⟨y, hy, rfl⟩
      exact ⟨y, hy, by simp⟩
  rw [List.length_cons, e]
  by_cases c : (hostOf hs host).isSome = true
  · rw [if_pos (hm.mp c)] at k
    rw [if_pos c]
    omega
  · rw [if_neg fun q => c (hm.mpr q)] at k
    rw [if_neg c]
    omega
/-! ### each operation keeps the state well-formed -/
theorem ok_change {d : Lan} (o : LanOk d) {n : Network} (W : WF n) (h : d.network.bridgeIds.length ≤ n.bridgeIds.length) : LanOk (changeNetwork d n) :=
  ⟨W, ⟨o.hosts.nd, fun y hy => ⟨(o.hosts.lt y hy).1, Nat.lt_of_lt_of_le (o.hosts.lt y hy).2 h⟩⟩, learnOk_nil _⟩
theorem wf_addBridge {n : Network} (W : WF n) {x : Nat} (hx : n.bridgeIds.contains x = false) (hl : ¬ maxBridges ≤ bridgeCount n) : WF { n with bridgeIds := n.bridgeIds ++ [x] } := by
  have hl : n.bridgeIds.length < 7 := by unfold maxBridges bridgeCount at hl; omega
  refine ⟨?_, W.linksLe, ?_, fun l h => ?_⟩
  · simp only [List.length_append, List.length_singleton]
    omega
  · rw [List.nodup_append]
    refine ⟨W.nodup, by simp, fun a ha b hb e => ?_⟩
    rw [List.mem_singleton] at hb
    subst hb e
    rw [List.contains_iff_mem.mpr ha] at hx
    cases hx
  · have := W.ends l h
    simp only [List.length_append, List.length_singleton]
    omega
theorem wf_links {n : Network} (W : WF n) {ls : List Link} (hl : ls.length ≤ 12) (h : ∀ l ∈ ls, l ∈ n.links ∨ (l.endA < n.bridgeIds.length ∧ l.endB < n.bridgeIds.length ∧ l.endA ≠ l.endB ∧ 1 ≤ l.cost ∧ l.cost ≤ 99)) : WF { n with links := ls } :=
  ⟨W.idsLe, hl, W.nodup, fun l hm => (h l hm).elim (W.ends l) id⟩
theorem mem_set_or {α : Type} {l : List α} {i : Nat} {x y : α} (h : y ∈ l.set i x) : y ∈ l ∨ y = x := List.mem_or_eq_of_mem_set h
theorem wf_setLink {n : Network} (W : WF n) {i : Nat} (hi : i < n.links.length) {l : Link} (ha : l.endA = (link n i).endA) (hb : l.endB = (link n i).endB) (hc : 1 ≤ l.cost ∧ l.cost ≤ 99) : WF { n with links := n.links.set i l } := by
  refine wf_links W (by rw [List.length_set]; exact W.linksLe) fun y hy => ?_
  rcases mem_set_or hy with h | rfl
  · exact .inl h
  · have := W.ends _ (List.mem_of_getElem? (link_get hi))
    rw [ha, hb]
    exact .inr ⟨this.1, this.2.1, this.2.2.1, hc⟩
theorem wf_setUp {n : Network} (W : WF n) {i : Nat} (hi : i < n.links.length) (b : Bool) : WF (setUp n i b) :=
  wf_setLink W hi rfl rfl (W.ends _ (List.mem_of_getElem? (link_get hi))).2.2.2
theorem wf_setId {n : Network} (W : WF n) {v x : Nat} (hx : n.bridgeIds.contains x = false) : WF { n with bridgeIds := n.bridgeIds.set v x } := by
  refine ⟨by simp only [List.length_set]; exact W.idsLe, W.linksLe, ?_, fun l h => by simp only [List.length_set]; exact W.ends l h⟩
  have hn : x ∉ n.bridgeIds := fun q => by
    rw [List.contains_iff_mem.mpr q] at hx
    cases hx
  have key : ∀ (l : List Nat) (v : Nat), l.Nodup → x ∉ l → (l.set v x).Nodup := by
    intro l
    induction l with
    | nil => intro v _ _; simp
    | cons a l ih =>
      intro v nd hx
      obtain ⟨n1, n2⟩ := List.nodup_cons.mp nd
      cases v with
      | zero =>
        rw [List.set_cons_zero, List.nodup_cons]
        exact ⟨fun q => hx (List.mem_cons_of_mem _ q), n2⟩
      | succ v =>
        rw [List.set_cons_succ, List.nodup_cons]
        refine ⟨fun q => ?_, ih v n2 fun q => hx (List.mem_cons_of_mem _ q)⟩
        rcases mem_set_or q with q | q
        · exact n1 q
        · exact hx (by rw [q]; simp)
  exact key _ v W.nodup hn
theorem learn_ok {N : Nat} (source : Nat) (hs : source ≤ 99) : ∀ (vs : List (Nat × Nat)) {h : List (Nat × Nat × Nat)}, LearnOk N h → (∀ y ∈ vs, y.1 < N) → LearnOk N (vs.foldl (learn1 source) h)
  | [], _, o, _ => o
  | y :: vs, _, o, hy => learn_ok source hs vs (learn1_ok o (hy y (by simp)) hs) fun z hz => hy z (List.mem_cons_of_mem _ hz)
theorem execute_ok {d : Lan} (o : LanOk d) (op : Operation) : LanOk (execute d op).1 := by
  cases op with
  | reset => exact lanOk_empty
  | addBridge x =>
    show LanOk (if 9999 < x then _ else _ : Lan × Result).1
    split
    · exact o
    · split
      · exact o
      · split
        · exact o
        · rename_i h1 h2 h3
          exact ok_change o (wf_addBridge o.wf (by simpa using h2) h3) (by simp)
  | addLink v w c =>
    show LanOk (if _ then _ else _ : Lan × Result).1
    split
    · exact o
    · split
      · exact o
      · split
        · exact o
        · rename_i h1 h2 h3
          unfold hasBridge at h1
          unfold bridgeCount at h1
          simp only [decide_eq_false_iff_not, not_or, Nat.not_lt, Nat.not_le] at h1 h2
          refine ok_change o (wf_links o.wf ?_ fun l hl => ?_) (Nat.le_refl _)
          · unfold maxLinks at h3
            rw [List.length_append, List.length_singleton]
            omega
          · rw [List.mem_append, List.mem_singleton] at hl
            rcases hl with hl | rfl
            · exact .inl hl
            · right
              simp only
              omega
  | linkDown i =>
    show LanOk (if _ then _ else _ : Lan × Result).1
    split
    · exact o
    · split
      · exact o
      · rename_i h1 h2
        exact ok_change o (wf_setUp o.wf (by simpa [hasLink] using h1) false) (Nat.le_refl _)
  | linkUp i =>
    show LanOk (if _ then _ else _ : Lan × Result).1
    split
    · exact o
    · split
      · exact o
      · rename_i h1 h2
        exact ok_change o (wf_setUp o.wf (by simpa [hasLink] using h1) true) (Nat.le_refl _)
  | setCost i c =>
    show LanOk (if _ then _ else _ : Lan × Result).1
    split
    · exact o
    · split
      · exact o
      · rename_i h1 h2
        exact ok_change o (wf_setLink o.wf (by simpa [hasLink] using h1) rfl rfl (by simp only; omega)) (Nat.le_refl _)
  | setBridgeId v x =>
    show LanOk (if _ then _ else _ : Lan × Result).1
    split
    · exact o
    · split
      · exact o
      · split
        · exact o
        · rename_i h1 h2 h3
          exact ok_change o (wf_setId o.wf (by simpa using h3)) (by simp)
  | rootPathsAfter k =>
    show LanOk (if _ then _ else _ : Lan × Result).1
    split <;> exact o
  | roundsToConverge => exact o
  | treeLinks => exact o
  | rootPath v =>
    show LanOk (if _ then _ else _ : Lan × Result).1
    split <;> exact o
  | treePath v w =>
    show LanOk (if _ then _ else _ : Lan × Result).1
    split
    · exact o
    · split <;> exact o
  | connectedBridges v =>
    show LanOk (if _ then _ else _ : Lan × Result).1
    split <;> exact o
  | placeHost host v =>
    show LanOk (if _ then _ else _ : Lan × Result).1
    split
    · exact o
    · split
      · exact o
      · rename_i h1 h2
        exact ⟨o.wf, place_ok o.hosts (by omega) (by
          cases q : hasBridge d v with
          | true => exact of_decide_eq_true q
          | false => exact absurd q h1), o.learned⟩
  | sendFrame s t =>
    show LanOk (match hostBridge d s, hostBridge d t with
      | some v, some w => _
      | _, _ => _ : Lan × Result).1
    split
    · rename_i v w e1 e2
      have h := hostOf_lt o.hosts e1
      obtain ⟨_, _, _, _, hlt⟩ := visits_loop o.wf (dest := t) h.1
      exact ⟨o.wf, o.hosts, learn_ok s h.2 _ o.learned hlt⟩
    · exact o
  | learnedEntries host =>
    show LanOk (match hostBridge d host with
      | none => _
      | some _ => _ : Lan × Result).1
    split <;> exact o
  | flushTables => exact ⟨o.wf, o.hosts, learnOk_nil _⟩
  | previewLinkDown i =>
    show LanOk (if _ then _ else _ : Lan × Result).1
    split
    · exact o
    · split <;> exact o
  | topology => exact o
end TB
end
section
set_option autoImplicit false
namespace TB
open Su200
/-! ### calls -/
def opOf : Nat → List Nat → Option Operation
  | 0, [] => some .reset
  | 1, [a] => some (.addBridge a)
  | 2, [a, b, c] => some (.addLink a b c)
  | 3, [a] => some (.linkDown a)
  | 4, [a] => some (.linkUp a)
  | 5, [a, b] => some (.setCost a b)
  | 6, [a, b] => some (.setBridgeId a b)
  | 7, [a] => some (.rootPathsAfter a)
  | 8, [] => some .roundsToConverge
  | 9, [] => some .treeLinks
  | 10, [a] => some (.rootPath a)
  | 11, [a, b] => some (.treePath a b)
  | 12, [a] => some (.connectedBridges a)
  | 13, [a, b] => some (.placeHost a b)
  | 14, [a, b] => some (.sendFrame a b)
  | 15, [a] => some (.learnedEntries a)
  | 16, [] => some .flushTables
  | 17, [a] => some (.previewLinkDown a)
  | 18, [] => some .topology
  | _, _ => none
def manyL : List Nat := [0, 1, 3, 1, 1, 2, 2, 1, 0, 0, 1, 2, 1, 2, 2, 1, 0, 1, 0]
structure CallOk (p : Int) (xs : List Int) (c : Nat) (ys : List Nat) (op : Operation) : Prop where
  ep : p = (c : Int)
  exs : xs = ys.map fun (x : Nat) => (x : Int)
  eop : opOf c ys = some op
  ecall : Su200Neutral.callOf (p :: xs) = some op
  eshape : PySu200.shape p = some (ys.length, 0)
  emany : manyL[c]? = some ys.length
theorem nat_of {a : Int} (h : Su200Neutral.natural a 32 = true) : ∃ n : Nat, a = (n : Int) := by
  unfold Su200Neutral.natural at h
  rw [Bool.and_eq_true, decide_eq_true_eq] at h
  exact ⟨a.toNat, by omega⟩
theorem call_ok : ∀ (p : Int) (xs : List Int), Su200Neutral.asked1 (p :: xs) = true → ∃ c ys op, CallOk p xs c ys op
  | p, [], h => by
    have h : ([0, 8, 9, 16, 18] : List Int).contains p = true := by
      unfold Su200Neutral.asked1 at h
      split at h
      · rename_i e
        simp at e
      · rename_i e
        simp at e
      · rename_i e
        simp at e
      · rename_i e
        cases e
        exact h
      · cases h
    rw [List.contains_iff_mem] at h
    simp only [List.mem_cons, List.not_mem_nil, or_false] at h
    rcases h with rfl | rfl | rfl | rfl | rfl
    · exact ⟨0, [], _, rfl, rfl, rfl, rfl, rfl, rfl⟩
    · exact ⟨8, [], _, rfl, rfl, rfl, rfl, rfl, rfl⟩
    · exact ⟨9, [], _, rfl, rfl, rfl, rfl, rfl, rfl⟩
    · exact ⟨16, [], _, rfl, rfl, rfl, rfl, rfl, rfl⟩
    · exact ⟨18, [], _, rfl, rfl, rfl, rfl, rfl, rfl⟩
  | p, [a], h0 => by
    have h : (([1, 3, 4, 7, 10, 12, 15, 17] : List Int).contains p && Su200Neutral.natural a 32) = true := by
      unfold Su200Neutral.asked1 at h0
      split at h0
      · rename_i e
        simp at e
      · rename_i e
        simp at e
      · rename_i e
        cases e
        exact h0
      · rename_i e
        simp at e
      · cases h0
    rw [Bool.and_eq_true, List.contains_iff_mem] at h
    obtain ⟨h, ha⟩ := h
    obtain ⟨a, rfl⟩ := nat_of ha
    simp only [List.mem_cons, List.not_mem_nil, or_false] at h
    rcases h with rfl | rfl | rfl | rfl | rfl | rfl | rfl | rfl
    · exact ⟨1, [a], _, rfl, rfl, rfl, rfl, rfl, rfl⟩
    · exact ⟨3, [a], _, rfl, rfl, rfl, rfl, rfl, rfl⟩
    · exact ⟨4, [a], _, rfl, rfl, rfl, rfl, rfl, rfl⟩
    · exact ⟨7, [a], _, rfl, rfl, rfl, rfl, rfl, rfl⟩
    · exact ⟨10, [a], _, rfl, rfl, rfl, rfl, rfl, rfl⟩
    · exact ⟨12, [a], _, rfl, rfl, rfl, rfl, rfl, rfl⟩
    · exact ⟨15, [a], _, rfl, rfl, rfl, rfl, rfl, rfl⟩
    · exact ⟨17, [a], _, rfl, rfl, rfl, rfl, rfl, rfl⟩
  | p, [a, b], h0 => by
    have h : (([5, 6, 11, 13, 14] : List Int).contains p && (Su200Neutral.natural a 32 && Su200Neutral.natural b 32)) = true := by
      unfold Su200Neutral.asked1 at h0
      split at h0
      · rename_i e
        simp at e
      · rename_i e
        cases e
        exact h0
      · rename_i e
        simp at e
      · rename_i e
        simp at e
      · cases h0
    rw [Bool.and_eq_true, Bool.and_eq_true, List.contains_iff_mem] at h
    obtain ⟨h, ha, hb⟩ := h
    obtain ⟨a, rfl⟩ := nat_of ha
    obtain ⟨b, rfl⟩ := nat_of hb
    simp only [List.mem_cons, List.not_mem_nil, or_false] at h
    rcases h with rfl | rfl | rfl | rfl | rfl
    · exact ⟨5, [a, b], _, rfl, rfl, rfl, rfl, rfl, rfl⟩
    · exact ⟨6, [a, b], _, rfl, rfl, rfl, rfl, rfl, rfl⟩
    · exact ⟨11, [a, b], _, rfl, rfl, rfl, rfl, rfl, rfl⟩
    · exact ⟨13, [a, b], _, rfl, rfl, rfl, rfl, rfl, rfl⟩
    · exact ⟨14, [a, b], _, rfl, rfl, rfl, rfl, rfl, rfl⟩
  | p, [a, b, c], h => by
    unfold Su200Neutral.asked1 at h
    split at h
    · rename_i a' b' c' e
      simp only [List.cons.injEq, and_true] at e
      obtain ⟨rfl, rfl, rfl, rfl⟩ := e
      rw [Bool.and_eq_true, Bool.and_eq_true] at h
      obtain ⟨ha, hb, hc⟩ := h
      obtain ⟨a, rfl⟩ := nat_of ha
      obtain ⟨b, rfl⟩ := nat_of hb
      obtain ⟨c, rfl⟩ := nat_of hc
      exact ⟨2, [a, b, c], _, rfl, rfl, rfl, rfl, rfl, rfl⟩
    · rename_i e
      simp at e
    · rename_i e
      simp at e
    · rename_i e
      simp at e
    · cases h
  | p, a :: b :: c :: d :: r, h => by
    unfold Su200Neutral.asked1 at h
    split at h
    · rename_i e
      simp at e
    · rename_i e
      simp at e
    · rename_i e
      simp at e
    · rename_i e
      simp at e
    · cases h
theorem whole_id (c : List (List Int)) : PySu200.whole c = c := by
  unfold PySu200.whole
  split <;> rfl
theorem map_whole (cs : List (List (List Int))) : cs.map PySu200.whole = cs := by
  rw [show PySu200.whole = id from funext whole_id, List.map_id]
/-- the machine -/
def stepC (s : Su200Neutral.S) (c : List (List Int)) : Su200Neutral.S × List Int := Su200Neutral.step s (c.headD [])
/-- one call of the list -/
theorem calls_step {f : Nat} {p : Int} {r : List Int} {cs : List (List (List Int))} (h : PyFlat.calls PySu200.shape f (p :: r) = some cs) (hs : ∀ n k, PySu200.shape p = some (n, k) → k = 0) :
    ∃ n f' cs', PySu200.shape p = some (n, 0) ∧ n ≤ r.length ∧ cs = [p :: r.take n] :: cs' ∧ PyFlat.calls PySu200.shape f' (r.drop n) = some cs' := by
  cases f with
  | zero => cases h
  | succ f =>
    unfold PyFlat.calls PyFlat.call at h
    cases e : PySu200.shape p with
    | none =>
      simp only [e] at h
      cases h
    | some nk =>
      obtain ⟨n, k⟩ := nk
      have hk := hs n k e
      subst hk
      simp only [e, PyFlat.rows] at h
      by_cases c : r.length < n
      · rw [if_pos c] at h
        cases h
      · rw [if_neg c] at h
        simp only at h
        cases e2 : PyFlat.calls PySu200.shape f (r.drop n) with
        | none =>
          rw [e2] at h
          cases h
        | some cs' =>
          rw [e2] at h
          cases h
          exact ⟨n, f, cs', rfl, by omega, rfl, e2⟩
theorem calls_nil {f : Nat} {cs : List (List (List Int))} (h : PyFlat.calls PySu200.shape f [] = some cs) : cs = [] := by
  cases f <;> cases h <;> rfl
theorem shape_ite {c : Prop} [Decidable c] {a : Nat} {x : Option (Nat × Nat)} (hx : ∀ n k, x = some (n, k) → k = 0) : ∀ n k, (if c then some (a, 0) else x) = some (n, k) → k = 0 := by
  intro n k h
  by_cases q : c
  · rw [if_pos q] at h
    cases h
    rfl
  · rw [if_neg q] at h
    exact hx n k h
theorem shape_zero (p : Int) : ∀ n k, PySu200.shape p = some (n, k) → k = 0 := by
  unfold PySu200.shape
  iterate 19 refine shape_ite ?_
  intro n k h
  cases h
theorem stepC_call {s : Su200Neutral.S} {p : Int} {xs : List Int} {op : Operation} (h : Su200Neutral.callOf (p :: xs) = some op) : stepC s [p :: xs] = ((Su200.step s op).1, (Su200.step s op).2.value :: Su200Neutral.outs (Su200.step s op).2.fields) := by
  show Su200Neutral.step s (p :: xs) = _
  unfold Su200Neutral.step
  rw [h]
theorem asked_of {ns : List Int} (h : PySu200.answers_asked ns = true) : ∃ cs, PyFlat.calls PySu200.shape ns.length ns = some cs ∧ (∀ c ∈ cs, Su200Neutral.asked1 (c.headD []) = true) ∧
    PySu200.answers ns = PyFlat.told (PyFlat.played stepC Su200Neutral.start cs) ∧ (PySu200.answers ns).length ≤ 10000000 := by
  unfold PySu200.answers_asked at h
  cases e : PyFlat.calls PySu200.shape ns.length ns with
  | none =>
    rw [e] at h
    cases h
  | some cs =>
    rw [e] at h
    obtain ⟨h1, h2⟩ := Bool.and_eq_true_iff.mp h
    obtain ⟨_, h1⟩ := Bool.and_eq_true_iff.mp h1
    rw [map_whole] at h1
    unfold Su200Neutral.asked at h1
    obtain ⟨_, h1⟩ := Bool.and_eq_true_iff.mp h1
    refine ⟨cs, rfl, fun c hc => List.all_eq_true.mp h1 _ (List.mem_map.mpr ⟨c, hc, rfl⟩), ?_, ?_⟩
    · unfold PySu200.answers PySu200.calls
      rw [e]
      simp only
      rw [map_whole]
      rfl
    · unfold PyFlat.short at h2
      exact of_decide_eq_true h2
theorem told_cons (a : List Int) (l : List (List Int)) : PyFlat.told (a :: l) = (a.length : Int) :: (a ++ PyFlat.told l) := rfl
end TB
end
section
namespace TB
open PySem PySem.Spec PyProof.Rows L2
/-! ### min(t, u) of two tuples of ints -/
section
variable {prog : Program} {w : World} {A : Around} {E : Value → Shared → Prop} {s : Shared}
theorem isTup_keep {h h' : Heap} {a : Addr} {its : Array Value} (k : ∀ b o, h.get? b = some o → h'.get? b = some o) (t : IsTup h a its) : IsTup h' a its := by
  obtain ⟨ob, e, c⟩ := t
  exact ⟨ob, k _ _ e, c⟩
/-- min(t, u): ahead of its loop min binds its two keywords to nothing, makes a tuple of t and u and walks that; within the loop the two are compared where all that stood ahead of the call still stands -/
theorem min_two_tups {a b : Addr} {i1 i2 : Array Value} {ns ms : List Int} {Q : Value → Shared → Prop} (hh : A.handled = none) (ha : IsTup s.heap a i1) (hb : IsTup s.heap b i2) (h1 : IntsAre i1.toList ns) (h2 : IntsAre i2.toList ms) (hu : A.units + 1 < cLine)
    (h : ∀ h' tk, (∀ c o, s.heap.get? c = some o → h'.get? c = some o) → Q (if HT.lexLt ms ns = true then .ref b else .ref a) { s with heap := h', toks := tk }) :
    wpAny (model prog w) A (call (.builtin "min") [.ref a, .ref b]) Q E s := by
  generalize ep : ({ cls := .type "tuple", data := .seq #[.ref a, .ref b] } : Obj) = pair
  generalize hs1 : ({ s with heap := s.heap.push pair } : Shared) = s1
  have eh : s1.heap = s.heap.push pair := by rw [← hs1]
  have hT : s1.heap.IsTuple s.heap.objs.size #[.ref a, .ref b] := by
    rw [eh, ← ep]
    exact ⟨_, Heap.get?_push_size _ rfl, rfl, 0, rfl⟩
  have k1 : ∀ c o, s.heap.get? c = some o → s1.heap.get? c = some o := fun c o e => by
    rw [eh]
    exact Heap.get?_push_of_some pair e
  -- the order of the two places
  let val : Nat → List Int := fun i => if i = 0 then ns else ms
  have at_ : ∀ (i : Nat) (v : Value), (#[Value.ref a, Value.ref b] : Array Value)[i]? = some v → ∃ (c : Addr) (its : Array Value), v = .ref c ∧ IsTup s.heap c its ∧ IntsAre its.toList (val i) := by
    intro i v hv
    match i with
    | 0 =>
      cases hv
      exact ⟨a, i1, rfl, ha, h1⟩
    | 1 =>
      cases hv
      exact ⟨b, i2, rfl, hb, h2⟩
    | i + 2 => simp at hv
  have cmp : CmpIn prog w A.in1 .Lt s1.heap (fun i v => (#[Value.ref a, Value.ref b] : Array Value)[i]? = some v) (fun i j => HT.lexLt (val i) (val j)) := by
    intro i j vi vj s' Q' E' hk' hi hj hq
    obtain ⟨c, is, rfl, tc, ic⟩ := at_ i vi hi
    obtain ⟨d, js, rfl, td, id⟩ := at_ j vj hj
    exact HT.lt_tupInts (A := A.in1) (isTup_keep (fun x o e => hk' _ _ (k1 x o e)) tc) (isTup_keep (fun x o e => hk' _ _ (k1 x o e)) td) ic id (by show A.units + 1 < cLine; exact hu) hq
  -- the loop's end: which of the two it hands back
  have last : ∀ (s₂ s' : Shared) (v : Value), s₂ = { s1 with heap := s1.heap.push { cls := .type "tuple_iterator", data := .fields #[.ref s.heap.objs.size, .int 0 0] } } → (#[Value.ref a, Value.ref b] : Array Value)[argBest (fun i j => HT.lexLt (val i) (val j)) 1]? = some v →
      Moved [s1.heap.objs.size] (fun x y => y = x) s₂ s' → Q v s' := by
    intro s₂ s' v e hP m
    obtain ⟨h', tk, rfl, hk'⟩ := PySem.W.moved_old e rfl m
    have z := h h' tk fun c o q => hk' c o (k1 c o q)
    have ea : argBest (fun i j => HT.lexLt (val i) (val j)) 1 = if HT.lexLt ms ns = true then 1 else 0 := rfl
    rw [ea] at hP
    have ev : v = if HT.lexLt ms ns = true then .ref b else .ref a := by
      by_cases q : HT.lexLt ms ns = true
      · rw [if_pos q] at hP ⊢
        exact (Option.some.inj hP).symm
      · rw [if_neg q] at hP ⊢
        exact (Option.some.inj hP).symm
    rw [ev, ← hs1]
    exact z
  -- min itself, from its call to its loop
  have none2 : Builtin.Builtins.bindParams "min" ["key", "default"] 0 ⟨[], []⟩ = pure [none, none] := rfl
  have eloop : (toString "min" ++ toString ".loop" : String) = "min.loop" := by decide +kernel
  refine call_function_tree F.kind_min F.plain_min F.entry_min (F.args_min2 (.ref a) (.ref b)) (wpAny_bind (wpAny_of_eq none2 (wpAny_bind (wpAny_newObj_type (wpAny_bind ?_)))))
  rw [ep, hs1]
  refine PySem.W.iter_tupleW (A := A.in1) hh hT fun s₂ e W st hfp hw hk => wpAny_bind (wpAny_newObj_type ?_)
  have far_ : s₂.heap.objs.size ∉ [s1.heap.objs.size, s.heap.objs.size] := fun q => Nat.lt_irrefl _ (hfp _ q)
  have keep_ : ∀ (o' : Obj) (c : Addr) (o : Obj), s1.heap.get? c = some o → (s₂.heap.push o').get? c = some o := fun o' c o q => Heap.get?_push_of_some o' (hk c o q)
  rw [eloop]
  refine wpAny_pure ⟨plainId_quiet F.plain_min_loop _, codeAny_min_loop_firstH W s1.heap hw _ cmp _ far_ (fresh_in hk) _ (by show 0 < 2; decide) (keep_ _) (W.frame 0 s₂ _ _ st (Nat.le_refl _) fun c _ o q => Heap.get?_push_of_some _ q) (Heap.get?_push_size _ rfl) fun v s' hP m => last s₂ s' v e hP (Moved.drop_new (tk := s₂.toks) m (Nat.le_refl _))⟩
end
section
variable {X : Cx}
def rMinT (K : PySem.W.Frag) : List V → Hp → VK → Prop := fun vs H Q => ∃ (a b : Addr) (ns ms : List Int), vs = [.ref a, .ref b] ∧ SqT K H a (ns.map V.int) ∧ SqT K H b (ms.map V.int) ∧ Q (.ref (if HT.lexLt ms ns = true then b else a)) H
theorem call_minT (hc : X.calm = true) (hu : X.A.units + 64 < cLine) : CallR X (.builtin "min") (rMinT X.K) := by
  intro pins s σ H vs us Q inv r asks
  obtain ⟨a, b, ns, ms, rfl, ha, hb, q⟩ := asks
  obtain ⟨u, w', rfl, hu1, hu2⟩ := vals2 r
  cases hu1
  cases hu2
  obtain ⟨us1, r1, p1, _⟩ := inv.tuple ha
  obtain ⟨us2, r2, p2, _⟩ := inv.tuple hb
  refine min_two_tups (inv.ok.hd hc) p1 p2 (by exact intsAre_of r1) (by exact intsAre_of r2) (by omega) fun h' tk k => ⟨.ref (if HT.lexLt ms ns = true then b else a), H, inv.kept k, ?_, q⟩
  by_cases c : HT.lexLt ms ns = true
  · rw [if_pos c, if_pos c]
    rfl
  · rw [if_neg c, if_neg c]
    rfl
end
end TB
end
section
namespace TB
open PySem PySem.Spec PyProof.Rows L2
/-! ### words for what stands in the heap -/
def topS (i : Nat) : Stmt := PySem.Challenge.pw_treebridgeworks_s01_answers.main.body.getD i (.Pass ⟨0, 0, 0, 0⟩)
abbrev Net := Su200.Network
abbrev Lk := Su200.Link
abbrev RP := Su200.RootPath
abbrev lnk (n : Net) (i : Nat) : Lk := Su200.link n i
def iV (n : Nat) : V := .int (n : Int)
def nV (l : List Nat) : List V := l.map iV
def zV (l : List Int) : List V := l.map V.int
theorem nV_eq (l : List Nat) : nV l = (l.map fun (x : Nat) => (x : Int)).map V.int := by
  unfold nV
  rw [List.map_map]
  rfl
theorem nV_len (l : List Nat) : (nV l).length = l.length := List.length_map ..
theorem nV_get {l : List Nat} {i : Nat} (h : i < l.length) (d : Nat) : (nV l)[i]? = some (iV (l.getD i d)) := by
  unfold nV
  rw [List.getElem?_map, List.getElem?_eq_getElem h, List.getD_eq_getElem?_getD, List.getElem?_eq_getElem h]
  rfl
theorem iV_inj {a b : Nat} (h : iV a = iV b) : a = b := Int.ofNat.inj (V.int.inj h)
theorem dec_iV (a b : Nat) : decide (iV a = iV b) = decide (a = b) := by
  by_cases h : a = b
  · rw [h, decide_eq_true rfl, decide_eq_true rfl]
  · rw [decide_eq_false h, decide_eq_false fun q => h (iV_inj q)]
theorem flat_nV (l : List Nat) : (nV l).all flatV = true := by
  unfold nV
  rw [List.all_map, List.all_eq_true]
  intro x _
  rfl
theorem inV_nV (a : Nat) (l : List Nat) : inV (iV a) (nV l) = l.contains a := by
  unfold inV nV
  rw [List.any_map, List.contains_eq_any_beq, Bool.eq_iff_iff, List.any_eq_true, List.any_eq_true]
  constructor
  · rintro ⟨x, hx, h⟩
    have h : ((x : Int) == (a : Int)) = true := h
    refine ⟨x, hx, ?_⟩
    rw [beq_iff_eq] at h ⊢
    omega
  · rintro ⟨x, hx, h⟩
    refine ⟨x, hx, ?_⟩
    show ((x : Int) == (a : Int)) = true
    rw [beq_iff_eq] at h ⊢
    omega
/-! ### heaps -/
theorem same_upd {H : Hp} {p : Addr} {o : HO} (h : H p = none) : Same H (upd H p o) := fun b x e => by
  rw [upd_ne (ne_of_none e h)]
  exact e
/-- a new list that grows -/
theorem same_grow {H H' : Hp} {p : Addr} {o : HO} (s : Same H H') (h : H p = none) : Same H (upd H' p o) := fun b x e => by
  rw [upd_ne (ne_of_none e h)]
  exact s b x e
/-- for addresses: as many, and each as R says -/
structure Each {α : Type} (R : Addr → α → Prop) (as : List Addr) (xs : List α) : Prop where
  len : as.length = xs.length
  at_ : ∀ (i : Nat) (a : Addr) (x : α), as[i]? = some a → xs[i]? = some x → R a x
theorem Each.nil {α : Type} (R : Addr → α → Prop) : Each R [] [] := ⟨rfl, fun i a x h => by simp at h⟩
theorem Each.snoc {α : Type} {R : Addr → α → Prop} {as : List Addr} {xs : List α} (e : Each R as xs) {a : Addr} {x : α} (r : R a x) : Each R (as ++ [a]) (xs ++ [x]) := by
  refine ⟨by simp [e.len], fun i b y h1 h2 => ?_⟩
  have hl := e.len
  by_cases q : i < as.length
  · rw [List.getElem?_append_left q] at h1
    rw [List.getElem?_append_left (by omega)] at h2
    exact e.at_ i b y h1 h2
  · rw [List.getElem?_append_right (by omega)] at h1
    rw [List.getElem?_append_right (by omega), ← hl] at h2
    cases k : i - as.length with
    | zero =>
      rw [k] at h1 h2
      cases h1
      cases h2
      exact r
    | succ j =>
      rw [k] at h1
      simp at h1
theorem Each.mono {α : Type} {R S : Addr → α → Prop} {as : List Addr} {xs : List α} (e : Each R as xs) (h : ∀ a x, a ∈ as → R a x → S a x) : Each S as xs :=
  ⟨e.len, fun i a x h1 h2 => h a x (List.mem_of_getElem? h1) (e.at_ i a x h1 h2)⟩
theorem Each.get {α : Type} {R : Addr → α → Prop} {as : List Addr} {xs : List α} (e : Each R as xs) {i : Nat} {x : α} (h : xs[i]? = some x) : ∃ a, as[i]? = some a ∧ (as.map V.ref)[i]? = some (.ref a) ∧ R a x := by
  have hi : i < as.length := by
    rw [e.len]
    exact (List.getElem?_eq_some_iff.mp h).1
  refine ⟨as[i], List.getElem?_eq_getElem hi, ?_, e.at_ i _ x (List.getElem?_eq_getElem hi) h⟩
  rw [List.getElem?_map, List.getElem?_eq_getElem hi]
  rfl
/-! ### what the top has written -/
def manyV : List V := [0, 1, 3, 1, 1, 2, 2, 1, 0, 0, 1, 2, 1, 2, 2, 1, 0, 1, 0].map V.int
structure Txt (K : PySem.W.Frag) (mg : Str → Option Value) (CN CL tM : Addr) : Prop where
  clN : Cls K CN
  clL : Cls K CL
  nIds : NoAttr K CN "ids"
  nLinks : NoAttr K CN "links"
  nHosts : NoAttr K CN "hosts"
  nTables : NoAttr K CN "tables"
  nOne : NoAttr K CL "one"
  nOther : NoAttr K CL "other"
  nCost : NoAttr K CL "cost"
  nUp : NoAttr K CL "is_up"
  nLen : mg "len" = none
  nRange : mg "range" = none
  nInt : mg "int" = none
  nMin : mg "min" = none
  nSum : mg "sum" = none
  nSorted : mg "sorted" = none
  c_NONE : ∃ t, mg "NONE" = some (.int (-1) t)
  c_ROOT_ID : ∃ t, mg "ROOT_ID" = some (.int 0 t)
  c_COST : ∃ t, mg "COST" = some (.int 1 t)
  c_VIA : ∃ t, mg "VIA" = some (.int 3 t)
  c_NOT_THERE : ∃ t, mg "NOT_THERE" = some (.int (-2) t)
  c_ALREADY_DOWN : ∃ t, mg "ALREADY_DOWN" = some (.int (-6) t)
  c_NO_NETWORK : ∃ t, mg "NO_NETWORK" = some (.int (-11) t)
  c_IN_USE : ∃ t, mg "IN_USE" = some (.int (-17) t)
  c_OUT_OF_RANGE : ∃ t, mg "OUT_OF_RANGE" = some (.int (-22) t)
  c_FULL : ∃ t, mg "FULL" = some (.int (-28) t)
  c_NOT_CONNECTED : ∃ t, mg "NOT_CONNECTED" = some (.int (-33) t)
  c_MOST_BRIDGES : ∃ t, mg "MOST_BRIDGES" = some (.int 7 t)
  c_MOST_LINKS : ∃ t, mg "MOST_LINKS" = some (.int 12 t)
  c_MOST_ID : ∃ t, mg "MOST_ID" = some (.int 9999 t)
  c_MOST_COST : ∃ t, mg "MOST_COST" = some (.int 99 t)
  c_MOST_HOST : ∃ t, mg "MOST_HOST" = some (.int 99 t)
  c_MOST_ROUNDS : ∃ t, mg "MOST_ROUNDS" = some (.int 20 t)
  c_RESET : ∃ t, mg "RESET" = some (.int 0 t)
  c_MANY_ARGUMENTS : mg "MANY_ARGUMENTS" = some (.ref tM)
  many : ∀ H, SqT K H tM manyV
theorem pe_cst {X : Cx} {x : Str} {i : Int} {pos : Pos} (hg : Gl X x) (h : ∃ t, X.mg x = some (.int i t)) (hd : (x == ("__debug__" : Str)) = false := by decide) : PE X (.Name x pos) (tC (.int i)) := by
  obtain ⟨t, h⟩ := h
  exact pe_glob hg h ⟨t, rfl⟩ hd
/-! rules within a comprehension's block: the written part by its own letter -/
theorem pe_fldI (K : PySem.W.Frag) {X : Cx} {e : Expr} {f : Str} {pos : Pos} {ta : L2.TE} (h : PE X e ta) (hb : attributeBase e f X.env (eval e X.env) = eval e X.env) (hK : X.K = K := by rfl) : PE X (.Attribute e f pos) (tFld K ta f) := by
  subst hK
  exact pe_fld h hb
theorem op_in_seqI (K : PySem.W.Frag) {X : Cx} (hK : X.K = K := by rfl) : OpR X (compareOp .In) (rIn K false) := by
  subst hK
  exact op_in_seq
theorem op_notIn_seqI (K : PySem.W.Frag) {X : Cx} (hK : X.K = K := by rfl) : OpR X (compareOp .NotIn) (rIn K true) := by
  subst hK
  exact op_notIn_seq
theorem ix_listI (K : PySem.W.Frag) {X : Cx} (hK : X.K = K := by rfl) : IxR X (rIxL K) := by
  subst hK
  exact ix_list
theorem ix_tupI (K : PySem.W.Frag) {X : Cx} (hK : X.K = K := by rfl) : IxR X (rIxT K) := by
  subst hK
  exact ix_tup
theorem call_len_seqI (K : PySem.W.Frag) {X : Cx} (hK : X.K = K := by rfl) : CallR X (.builtin "len") (fun xs H Q => ∃ p ys, xs = [.ref p] ∧ (SqL K H p ys ∨ SqT K H p ys) ∧ Q (.int ys.length) H) := by
  subst hK
  exact call_len_seq
/-- a def that may be called -/
structure Cal (P : Program) (w : World) (K : PySem.W.Frag) (mg : Str → Option Value) (base : Heap) (x : Str) (k : Nat) (ps : List Str) (sp : Sp) (f : Addr) (fd : FuncData) : Prop where
  ok : FnOk P w K mg base CX0 k f fd ps sp
  mg : mg x = some (.ref f)
  kp : PySem.W.keepIn K (.ref f) = true
  b : Binds K fd ps []
structure CalM (P : Program) (w : World) (K : PySem.W.Frag) (mg : Str → Option Value) (base : Heap) (x : Str) (C : Addr) (k : Nat) (ps : List Str) (sp : Sp) (f : Addr) (fd : FuncData) : Prop where
  ok : FnOk P w K mg base CX0 k f fd ps sp
  mt : Meth K C x f
  b : Binds K fd ps []
structure CalC (P : Program) (w : World) (K : PySem.W.Frag) (mg : Str → Option Value) (base : Heap) (x : Str) (C : Addr) (k : Nat) (ps : List Str) (sp : Sp) (f : Addr) (fd : FuncData) : Prop where
  ok : FnOk P w K mg base CX0 k f fd ps sp
  mkC : Mk K C f
  mg : mg x = some (.ref C)
  b : Binds K fd ps []
/-! ### links, ids and paths in the heap -/
def lF (l : Lk) : List (Str × V) := [("one", iV l.endA), ("other", iV l.endB), ("cost", iV l.cost), ("is_up", .bl l.up)]
theorem lk_here {k : Str} {v : V} {r : List (Str × V)} : List.lookup k ((k, v) :: r) = some v := by
  have e : (k == k) = true := beq_self_eq_true k
  simp only [List.lookup, e]
theorem lk_past {k g : Str} {v : V} {r : List (Str × V)} (h : (k == g) = false) : List.lookup k ((g, v) :: r) = List.lookup k r := by
  simp only [List.lookup, h]
theorem put_here {f : Str} {v x : V} {r : List (Str × V)} : putF f v ((f, x) :: r) = (f, v) :: r := if_pos rfl
theorem put_past {f g : Str} {v x : V} {r : List (Str × V)} (h : ¬ g = f) : putF f v ((g, x) :: r) = (g, x) :: putF f v r := if_neg h
theorem lF_one (l : Lk) : (lF l).lookup ("one" : Str) = some (iV l.endA) := lk_here
theorem lF_other (l : Lk) : (lF l).lookup ("other" : Str) = some (iV l.endB) := (lk_past (by decide +kernel)).trans lk_here
theorem lF_cost (l : Lk) : (lF l).lookup ("cost" : Str) = some (iV l.cost) := (lk_past (by decide +kernel)).trans ((lk_past (by decide +kernel)).trans lk_here)
theorem lF_up (l : Lk) : (lF l).lookup ("is_up" : Str) = some (.bl l.up) := (lk_past (by decide +kernel)).trans ((lk_past (by decide +kernel)).trans ((lk_past (by decide +kernel)).trans lk_here))
theorem lF_put_cost (l : Lk) (c : Nat) : putF "cost" (iV c) (lF l) = lF { l with cost := c } := (put_past (by decide +kernel)).trans (congrArg _ ((put_past (by decide +kernel)).trans (congrArg _ put_here)))
theorem lF_put_up (l : Lk) (b : Bool) : putF "is_up" (.bl b) (lF l) = lF { l with up := b } :=
  (put_past (by decide +kernel)).trans (congrArg _ ((put_past (by decide +kernel)).trans (congrArg _ ((put_past (by decide +kernel)).trans (congrArg _ put_here)))))
theorem lF_new (a b c u : V) : putF "is_up" u (putF "cost" c (putF "other" b (putF "one" a []))) = ([("one", a), ("other", b), ("cost", c), ("is_up", u)] : List (Str × V)) := by
  rw [show putF "one" a [] = [(("one" : Str), a)] from rfl]
  rw [show putF "other" b [(("one" : Str), a)] = [(("one" : Str), a), ("other", b)] from (put_past (by decide +kernel)).trans rfl]
  rw [show putF "cost" c [(("one" : Str), a), ("other", b)] = [(("one" : Str), a), ("other", b), ("cost", c)] from (put_past (by decide +kernel)).trans (congrArg _ ((put_past (by decide +kernel)).trans rfl))]
  exact (put_past (by decide +kernel)).trans (congrArg _ ((put_past (by decide +kernel)).trans (congrArg _ ((put_past (by decide +kernel)).trans rfl))))
def LinkAt (CL : Addr) (H : Hp) (a : Addr) (l : Lk) : Prop := ∃ dx, H a = some (.ins CL dx (lF l))
theorem LinkAt.same {CL a : Addr} {H H' : Hp} {l : Lk} (s : Same H H') (h : LinkAt CL H a l) : LinkAt CL H' a l := by
  obtain ⟨dx, h⟩ := h
  exact ⟨dx, s _ _ h⟩
/-- the list of links at aL: its objects las -/
structure LksAt (CL : Addr) (H : Hp) (aL : Addr) (las : List Addr) (ls : List Lk) : Prop where
  lst : H aL = some (.lst (las.map V.ref))
  each : Each (LinkAt CL H) las ls
theorem LksAt.same {CL aL : Addr} {H H' : Hp} {las : List Addr} {ls : List Lk} (s : Same H H') (h : LksAt CL H aL las ls) : LksAt CL H' aL las ls :=
  ⟨s _ _ h.lst, h.each.mono fun _ _ _ q => q.same s⟩
/-- a network's ids at aI and links at aL, to be read -/
structure NetRd (CL : Addr) (H : Hp) (aI aL : Addr) (n : Net) : Prop where
  wf : WF n
  ids : H aI = some (.lst (nV n.bridgeIds))
  lks : ∃ las, LksAt CL H aL las n.links
theorem NetRd.same {CL aI aL : Addr} {H H' : Hp} {n : Net} (s : Same H H') (h : NetRd CL H aI aL n) : NetRd CL H' aI aL n := by
  obtain ⟨las, q⟩ := h.lks
  exact ⟨h.wf, s _ _ h.ids, las, q.same s⟩
/-- the links alone -/
structure LnkRd (CL : Addr) (H : Hp) (aL : Addr) (n : Net) : Prop where
  le : n.links.length ≤ 12
  lks : ∃ las, LksAt CL H aL las n.links
theorem LnkRd.same {CL aL : Addr} {H H' : Hp} {n : Net} (s : Same H H') (h : LnkRd CL H aL n) : LnkRd CL H' aL n := by
  obtain ⟨las, q⟩ := h.lks
  exact ⟨h.le, las, q.same s⟩
theorem NetRd.lnk {CL aI aL : Addr} {H : Hp} {n : Net} (h : NetRd CL H aI aL n) : LnkRd CL H aL n := ⟨h.wf.linksLe, h.lks⟩
/-- one link of it -/
theorem LnkRd.get {CL aL : Addr} {H : Hp} {n : Net} (h : LnkRd CL H aL n) {i : Nat} (hi : i < n.links.length) : ∃ (las : List Addr) (la : Addr), H aL = some (.lst (las.map V.ref)) ∧ las.length = n.links.length ∧ las[i]? = some la ∧ (las.map V.ref)[i]? = some (.ref la) ∧ LinkAt CL H la (lnk n i) := by
  obtain ⟨las, q⟩ := h.lks
  obtain ⟨la, h1, h2, h3⟩ := q.each.get (link_get hi)
  exact ⟨las, la, q.lst, q.each.len, h1, h2, h3⟩
theorem LnkRd.len {CL aL : Addr} {H : Hp} {n : Net} (h : LnkRd CL H aL n) : ∃ las : List Addr, H aL = some (.lst (las.map V.ref)) ∧ (las.map V.ref).length = n.links.length := by
  obtain ⟨las, q⟩ := h.lks
  exact ⟨las, q.lst, by rw [List.length_map]; exact q.each.len⟩
/-- a path's tuple -/
def PathAt (n : Net) (H : Hp) (a : Addr) (p : RP) : Prop := H a = some (.tup (zV (pT n.links.length p)))
def PathsAt (n : Net) (H : Hp) (aP : Addr) (ps : List RP) : Prop := ∃ pas : List Addr, H aP = some (.lst (pas.map V.ref)) ∧ Each (PathAt n H) pas ps
theorem PathsAt.same {n : Net} {aP : Addr} {H H' : Hp} {ps : List RP} (s : Same H H') (h : PathsAt n H aP ps) : PathsAt n H' aP ps := by
  obtain ⟨pas, h1, h2⟩ := h
  exact ⟨pas, s _ _ h1, h2.mono fun a x _ q => s _ _ q⟩
theorem small_of {n m : Nat} (h : n ≤ m) (hm : m ≤ 1000 := by decide) : n < sizeLine := small1000 (Nat.le_trans h hm)
theorem size_of {n m : Nat} (h : n ≤ m) (hm : m ≤ 1000 := by decide) : n ≤ sizeLine := Nat.le_of_lt (small_of h hm)
theorem at_nat {xs : List V} {j : Nat} {v : V} (h : xs[j]? = some v) : atI xs ((j : Nat) : Int) = some v := atI_nat h
theorem b62 {n m : Nat} (h : n ≤ m) (hm : m ≤ 1000 := by decide) : -(2 ^ 62) ≤ (n : Int) ∧ (n : Int) < 2 ^ 62 := by
  have : (n : Int) ≤ 1000 := by omega
  exact ⟨by omega, by omega⟩
section
variable {P : Program} {w : World} {K : PySem.W.Frag} {mg : Str → Option Value} {base : Heap} {CN CL tM : Addr}
/-! ### Link -/
abbrev s_Link_init : Stmt := inClass (topS 1) 0
theorem sc_Link_init : FnScope ["self", "one", "other", "cost", "is_up"] ["self", "one", "other", "cost", "is_up"] (defScope s_Link_init) := ⟨rfl, rfl, rfl, by decide +kernel, rfl, by decide +kernel, by decide +kernel⟩
def sp_Link_init (K : PySem.W.Frag) (CN CL : Addr) : Sp := fun vs H Q _ => ∃ (p dx : Addr) (l : Lk), vs = [.ref p, iV l.endA, iV l.endB, iV l.cost, .bl l.up] ∧ H p = some (.ins CL dx []) ∧
  ∀ H' : Hp, H' p = some (.ins CL dx (lF l)) → (∀ b, b ≠ p → H' b = H b) → Q .non H'
theorem ok_Link_init {f : Addr} {fd : FuncData} (F : Fun K "__init__" "Link.__init__" s_Link_init f fd) (T : Txt K mg CN CL tM) : FnOk P w K mg base CX0 1 f fd ["self", "one", "other", "cost", "is_up"] (sp_Link_init K CN CL) := by
  refine F.ok sc_Link_init (fun vs H Q E h => ?_) (fun cdv A outer s H vs Q E hr h => ?_)
  · obtain ⟨p, dx, l, rfl, _⟩ := h
    rfl
  · obtain ⟨p, dx, l, rfl, hp, k⟩ := h
    have hu := hu_of hr
    refine ⟨_, (pss_cons (ps_fld (pv 0) (pv 1) rfl)
      (pss_cons (ps_fld (pv 0) (pv 2) rfl)
      (pss_cons (ps_fld (pv 0) (pv 3) rfl)
      (pss_one (ps_fld (pv 0) (pv 4) rfl))))), ?_⟩
    refine ⟨_, rfl, _, rfl, p, CL, dx, [], rfl, hp, T.clL, T.nOne, (by show 0 < 1000; decide), ?_⟩
    refine ⟨_, rfl, _, rfl, p, CL, dx, _, rfl, upd_same, T.clL, T.nOther, (by show 1 < 1000; decide), ?_⟩
    refine ⟨_, rfl, _, rfl, p, CL, dx, _, rfl, upd_same, T.clL, T.nCost, (by show 2 < 1000; decide), ?_⟩
    refine ⟨_, rfl, _, rfl, p, CL, dx, _, rfl, upd_same, T.clL, T.nUp, (by show 3 < 1000; decide), ?_⟩
    refine k _ (Eq.trans upd_same (congrArg (fun q => some (HO.ins CL dx q)) (lF_new _ _ _ _))) fun b hb => ?_
    rw [upd_ne hb, upd_ne hb, upd_ne hb, upd_ne hb]
/-! ### is_at, far_end -/
abbrev s_is_at : Stmt := topS 2
theorem sc_is_at : FnScope ["link", "bridge"] ["link", "bridge"] (defScope s_is_at) := ⟨rfl, rfl, rfl, by decide +kernel, rfl, by decide +kernel, by decide +kernel⟩
def sp_is_at (K : PySem.W.Frag) (CN CL : Addr) : Sp := fun vs H Q _ => ∃ (a : Addr) (l : Lk) (b : Nat), vs = [.ref a, iV b] ∧ LinkAt CL H a l ∧ Q (.bl (atB l b)) H
theorem ok_is_at {f : Addr} {fd : FuncData} (F : Fun K "is_at" "is_at" s_is_at f fd) (T : Txt K mg CN CL tM) : FnOk P w K mg base CX0 1 f fd ["link", "bridge"] (sp_is_at K CN CL) := by
  refine F.ok sc_is_at (fun vs H Q E h => ?_) (fun cdv A outer s H vs Q E hr h => ?_)
  · obtain ⟨a, l, b, rfl, _⟩ := h
    rfl
  · obtain ⟨a, l, b, rfl, ⟨dx, h1⟩, k⟩ := h
    have hu := hu_of hr
    refine ⟨_, (pss_one (ps_ret (pe_or (pe_cmpR op_eq (pe_fld (pv 0) rfl) (pv 1) (nomark _)) (pe_one (pe_cmpR op_eq (pe_fld (pv 0) rfl) (pv 1) (nomark _)))))), ?_⟩
    refine ⟨_, rfl, a, CL, dx, _, _, rfl, h1, T.clL, T.nOne, lF_one l, _, rfl, rfl, _, rfl, ?_⟩
    rw [dec_iV]
    refine ite2 (fun c => ?_) (fun c => ?_)
    · have e : atB l b = true := by
        unfold atB
        rw [c, Bool.true_or]
      rw [e] at k
      exact k
    · refine ⟨_, rfl, a, CL, dx, _, _, rfl, h1, T.clL, T.nOther, lF_other l, _, rfl, rfl, ?_⟩
      rw [dec_iV]
      have e : atB l b = decide (l.endB = b) := by
        unfold atB
        rw [Bool.eq_false_iff.mpr c, Bool.false_or]
      rw [e] at k
      exact k
abbrev s_far_end : Stmt := topS 3
theorem sc_far_end : FnScope ["link", "bridge"] ["link", "bridge"] (defScope s_far_end) := ⟨rfl, rfl, rfl, by decide +kernel, rfl, by decide +kernel, by decide +kernel⟩
def sp_far_end (K : PySem.W.Frag) (CN CL : Addr) : Sp := fun vs H Q _ => ∃ (a : Addr) (l : Lk) (b : Nat), vs = [.ref a, iV b] ∧ LinkAt CL H a l ∧ Q (iV (far l b)) H
theorem ok_far_end {f : Addr} {fd : FuncData} (F : Fun K "far_end" "far_end" s_far_end f fd) (T : Txt K mg CN CL tM) : FnOk P w K mg base CX0 1 f fd ["link", "bridge"] (sp_far_end K CN CL) := by
  refine F.ok sc_far_end (fun vs H Q E h => ?_) (fun cdv A outer s H vs Q E hr h => ?_)
  · obtain ⟨a, l, b, rfl, _⟩ := h
    rfl
  · obtain ⟨a, l, b, rfl, ⟨dx, h1⟩, k⟩ := h
    have hu := hu_of hr
    refine ⟨_, (pss_one (ps_ret (pe_ifExp (pt_cmpR op_eq (pe_fld (pv 0) rfl) (pv 1) (nomark _)) (pe_fld (pv 0) rfl) (pe_fld (pv 0) rfl)))), ?_⟩
    refine ⟨_, rfl, a, CL, dx, _, _, rfl, h1, T.clL, T.nOne, lF_one l, _, rfl, rfl, _, rfl, ?_⟩
    rw [dec_iV]
    unfold far at k
    refine ite2 (fun c => ?_) (fun c => ?_)
    · rw [if_pos (of_decide_eq_true c)] at k
      exact ⟨_, rfl, a, CL, dx, _, _, rfl, h1, T.clL, T.nOther, lF_other l, k⟩
    · rw [if_neg fun q => c (decide_eq_true q)] at k
      exact ⟨_, rfl, a, CL, dx, _, _, rfl, h1, T.clL, T.nOne, lF_one l, k⟩
end
end TB
end
section
namespace TB
open PySem PySem.Spec PyProof.Rows L2
/-! ### lists that a comprehension or a loop makes -/
structure Made (H0 : Hp) (D : Addr) (xs : List V) (H : Hp) : Prop where
  same : Same H0 H
  at_ : H D = some (.lst xs)
theorem Made.start {H0 : Hp} {D : Addr} (h : H0 D = none) : Made H0 D [] (upd H0 D (.lst [])) := ⟨same_upd h, upd_same⟩
theorem Made.grow {H0 H H' : Hp} {D : Addr} {xs : List V} (M : Made H0 D xs H) (s : Same H H') : Made H0 D xs H' := ⟨M.same.trans s, s _ _ M.at_⟩
theorem Made.put {H0 H : Hp} {D : Addr} {xs : List V} (M : Made H0 D xs H) (h : H0 D = none) (ys : List V) : Made H0 D ys (upd H D (.lst ys)) := ⟨same_grow M.same h, upd_same⟩
theorem Made.snoc {H0 H : Hp} {D : Addr} {xs ys : List V} (M : Made H0 D xs H) (h : H0 D = none) (hz : xs.length ≤ 999) {y : V} (e : ys = xs ++ [y]) :
    ∃ acc, H D = some (.lst acc) ∧ acc.length < sizeLine ∧ Made H0 D ys (upd H D (.lst (acc ++ [y]))) := by
  subst e
  exact ⟨xs, M.at_, small_of hz, M.put h _⟩
theorem Made.eq {H0 H : Hp} {D : Addr} {xs ys : List V} (M : Made H0 D xs H) (e : ys = xs) : Made H0 D ys H := by
  subst e
  exact M
/-- a comprehension over range(n): its item told as iV i -/
theorem lc_rng {n : Nat} {g : TG} {tt : TT} {te : L2.TE} {vs : List Nat} {σ : L2.St} {H1 : Hp} {D : Addr} {Qd : Hp → Prop} (G : Nat → Hp → Prop) (start : G 0 (upd H1 D (.lst [])))
    (turn : ∀ i Hi, i < n → G i Hi → g (iV i) (wipe σ vs) Hi fun τ Ha => wipe τ vs = wipe σ vs ∧ tt τ Ha fun keep Hb =>
      if keep = true then te τ Hb fun y Hc => ∃ made, Hc D = some (.lst made) ∧ made.length < sizeLine ∧ G (i + 1) (upd Hc D (.lst (made ++ [y]))) else G (i + 1) Hb) (done : ∀ Hn, G n Hn → Qd Hn) :
    ∃ Wk : Nat → Nat → Hp → Prop, (∃ k, Wk 0 k (upd H1 D (.lst []))) ∧ ∀ i k Hi, Wk i k Hi →
      ((Itr 0 n).stop i Hi ∧ Qd Hi) ∨ ((Itr 0 n).go i Hi ∧ ∃ Next : Hp → Prop, (∀ Hj, Next Hj → ∃ k', k' < k ∧ Wk (i + 1) k' Hj) ∧ ∀ x Hx, (Itr 0 n).yld i Hi x Hx → g x (wipe σ vs) Hx fun τ Ha => wipe τ vs = wipe σ vs ∧ tt τ Ha fun keep Hb =>
        if keep = true then te τ Hb fun y Hc => ∃ made, Hc D = some (.lst made) ∧ made.length < sizeLine ∧ Next (upd Hc D (.lst (made ++ [y]))) else Next Hb) :=
  lc_range (lo := 0) G start (fun i Hi hi hp => by
    have q := turn i Hi hi hp
    rw [show iV i = V.int (0 + (i : Int)) from by unfold iV; rw [Int.zero_add]] at q
    exact q) done
theorem for_rng {n : Nat} {g : TG} {tb : TS} {D : Ends} {σ : L2.St} {H : Hp} (G : Nat → L2.St → Hp → Prop) (start : G 0 σ H)
    (turn : ∀ i τ Hi, i < n → G i τ Hi → g (iV i) τ Hi fun τ2 Ha => tb { D with nx := G (i + 1), ct := G (i + 1), bk := D.nx } τ2 Ha) (done : ∀ τ Hn, G n τ Hn → D.nx τ Hn) :
    ∃ Wk : Nat → Nat → L2.St → Hp → Prop, (∃ k, Wk 0 k σ H) ∧ ∀ i k τ Hi, Wk i k τ Hi →
      ((Itr 0 n).stop i Hi ∧ D.nx τ Hi) ∨ ((Itr 0 n).go i Hi ∧ ∃ Next : L2.St → Hp → Prop, (∀ τ' Hj, Next τ' Hj → ∃ k', k' < k ∧ Wk (i + 1) k' τ' Hj) ∧ ∀ x Hx, (Itr 0 n).yld i Hi x Hx → g x τ Hx fun τ2 Ha => tb { D with nx := Next, ct := Next, bk := D.nx } τ2 Ha) :=
  for_range (lo := 0) G start (fun i τ Hi hi hp => by
    have q := turn i τ Hi hi hp
    rw [show iV i = V.int (0 + (i : Int)) from by unfold iV; rw [Int.zero_add]] at q
    exact q) done
/-- a comprehension without a test -/
theorem yes_of {σ : L2.St} {H : Hp} {A B : Bool → Hp → Prop} (h : A true H) : tYes σ H (fun b H3 => if b = true then A b H3 else B b H3) := by
  show if true = true then A true H else B true H
  rw [if_pos rfl]
  exact h
theorem range_keep {p : Nat → Bool} {i : Nat} (h : p i = true) : nV ((List.range (i + 1)).filter p) = nV ((List.range i).filter p) ++ [iV i] := by
  rw [List.range_succ, List.filter_append, List.filter_cons_of_pos h]
  unfold nV
  rw [List.map_append]
  rfl
theorem range_skip {p : Nat → Bool} {i : Nat} (h : ¬ p i = true) : nV ((List.range (i + 1)).filter p) = nV ((List.range i).filter p) := by
  rw [List.range_succ, List.filter_append, List.filter_cons_of_neg h, List.filter_nil, List.append_nil]
theorem range_filter_len {p : Nat → Bool} (i : Nat) : (nV ((List.range i).filter p)).length ≤ i := by
  rw [nV_len]
  have := List.length_filter_le p (List.range i)
  rwa [List.length_range] at this
/-- an item of a list of numbers -/
theorem nV_at {l : List Nat} {i : Nat} {x : V} (h : (nV l)[i]? = some x) : ∃ y, l[i]? = some y ∧ x = iV y := by
  unfold nV at h
  rw [List.getElem?_map] at h
  cases e : l[i]? with
  | none =>
    rw [e] at h
    cases h
  | some y =>
    rw [e] at h
    exact ⟨y, rfl, (Option.some.inj h).symm⟩
theorem take_more {α : Type} {l : List α} {i : Nat} {x : α} (h : l[i]? = some x) : l.take (i + 1) = l.take i ++ [x] := by
  rw [List.take_add_one, h]
  rfl
theorem take_keep {p : Nat → Bool} {l : List Nat} {i x : Nat} (hx : l[i]? = some x) (h : p x = true) : nV ((l.take (i + 1)).filter p) = nV ((l.take i).filter p) ++ [iV x] := by
  rw [take_more hx, List.filter_append, List.filter_cons_of_pos h]
  unfold nV
  rw [List.map_append]
  rfl
theorem take_skip {p : Nat → Bool} {l : List Nat} {i x : Nat} (hx : l[i]? = some x) (h : ¬ p x = true) : nV ((l.take (i + 1)).filter p) = nV ((l.take i).filter p) := by
  rw [take_more hx, List.filter_append, List.filter_cons_of_neg h, List.filter_nil, List.append_nil]
theorem take_filter_len {p : Nat → Bool} {l : List Nat} (i : Nat) : (nV ((l.take i).filter p)).length ≤ l.length := by
  rw [nV_len]
  refine Nat.le_trans (List.length_filter_le p _) ?_
  rw [List.length_take]
  exact Nat.min_le_right _ _
theorem range_map_more {α : Type} (f : Nat → α) (i : Nat) : (List.range (i + 1)).map f = (List.range i).map f ++ [f i] := by
  rw [List.range_succ, List.map_append]
  rfl
section
variable {P : Program} {w : World} {K : PySem.W.Frag} {mg : Str → Option Value} {base : Heap} {CN CL tM : Addr}
/-! ### links_at -/
abbrev s_links_at : Stmt := topS 4
theorem sc_links_at : FnScope ["links", "bridge", "index"] ["links", "bridge"] (defScope s_links_at) := ⟨rfl, rfl, rfl, by decide +kernel, rfl, by decide +kernel, by decide +kernel⟩
def sp_links_at (K : PySem.W.Frag) (CN CL : Addr) : Sp := fun vs H Q _ => ∃ (aL : Addr) (n : Net) (b : Nat), vs = [.ref aL, iV b] ∧ LnkRd CL H aL n ∧
  ∀ (H' : Hp) (p : Addr), H p = none → Made H p (nV (lAt n b)) H' → Q (.ref p) H'
theorem ok_links_at {f : Addr} {fd : FuncData} (F : Fun K "links_at" "links_at" s_links_at f fd) (T : Txt K mg CN CL tM) {f_is_at : Addr} {fd_is_at : FuncData} (c_is_at : Cal P w K mg base "is_at" 1 ["link", "bridge"] (sp_is_at K CN CL) f_is_at fd_is_at) : FnOk P w K mg base CX0 2 f fd ["links", "bridge"] (sp_links_at K CN CL) := by
  refine F.ok sc_links_at (fun vs H Q E h => ?_) (fun cdv A outer s H vs Q E hr h => ?_)
  · obtain ⟨aL, n, b, rfl, _⟩ := h
    rfl
  · obtain ⟨aL, n, b, rfl, R, k⟩ := h
    have hu := hu_of hr
    obtain ⟨las, hl, hlen⟩ := R.len
    have hle := R.le
    refine ⟨_, (pss_one (ps_ret (pe_lc (own := [("index", 2)]) (g := gName 2) rfl sc_links_at.nd (pi_range1 (by rfl) T.nRange (pa_cons (pe_callB call_len_seq (by rfl) T.nLen PySem.boot_len (pa_cons (pv 0) pa_nil)) pa_nil)) (blkOk_by (N := ["links", "bridge", "index"]) (sc := defScope s_links_at) (by decide +kernel)) (fun _ _ _ _ _ => (pg_name (i := 2) sc_links_at.nd rfl (Or.inl rfl))) (fun _ _ _ _ _ => (pts_one (pt_val (pe_call c_is_at.ok (hr.mono (by decide)) (by rfl) c_is_at.mg c_is_at.kp c_is_at.b .nil pass0 (pa_cons (pe_ix (ix_listI K) (pv 0) (pv 2) (fun _ _ => rfl)) (pa_cons (pv 1) pa_nil)))))) (fun _ _ _ _ _ => (pv 2))))), ?_⟩
    refine ⟨_, rfl, _, _, rfl, .inl (SqL.of hl), _, rfl, (b62 (m := 12) (by omega)).1, (b62 (m := 12) (by omega)).2, fun D hD => ?_⟩
    refine lc_rng (n := (las.map V.ref).length) (fun i H' => Made H D (nV ((List.range i).filter fun i => atB (lnk n i) b)) H') (Made.start hD) (fun i H1 hi M => ?_) (fun H1 M => ?_)
    · have hi' : i < n.links.length := by rw [← hlen]; exact hi
      obtain ⟨las', la, g1, g2, g3, g4, g5⟩ := (R.same M.same).get hi'
      refine ⟨rfl, _, rfl, _, rfl, _, _, _, _, rfl, rfl, SqL.of g1, at_nat g4, _, rfl, la, _, b, rfl, g5, _, rfl, ?_⟩
      refine ite2 (fun c => ?_) (fun c => ?_)
      · refine ⟨_, rfl, M.snoc hD (Nat.le_trans (range_filter_len i) (by omega)) (range_keep (p := fun i => atB (lnk n i) b) c)⟩
      · exact M.eq (range_skip (p := fun i => atB (lnk n i) b) c)
    · refine k _ _ hD ?_
      rw [hlen] at M
      exact M
/-! ### with_down -/
abbrev s_with_down : Stmt := topS 5
theorem sc_with_down : FnScope ["links", "number", "found", "index", "link"] ["links", "number"] (defScope s_with_down) := ⟨rfl, rfl, rfl, by decide +kernel, rfl, by decide +kernel, by decide +kernel⟩
def downed (n : Net) (i : Nat) : List Lk := (List.range n.links.length).map fun j => { lnk n j with up := (lnk n j).up && !decide (j = i) }
def sp_with_down (K : PySem.W.Frag) (CN CL : Addr) : Sp := fun vs H Q _ => ∃ (aL : Addr) (n : Net) (i : Nat), vs = [.ref aL, iV i] ∧ LnkRd CL H aL n ∧
  ∀ (H' : Hp) (p : Addr) (las : List Addr), Same H H' → LksAt CL H' p las (downed n i) → Q (.ref p) H'
theorem ok_with_down {f : Addr} {fd : FuncData} (F : Fun K "with_down" "with_down" s_with_down f fd) (T : Txt K mg CN CL tM) {f_Link_init : Addr} {fd_Link_init : FuncData} (c_Link_init : CalC P w K mg base "Link" CL 1 ["self", "one", "other", "cost", "is_up"] (sp_Link_init K CN CL) f_Link_init fd_Link_init) : FnOk P w K mg base CX0 3 f fd ["links", "number"] (sp_with_down K CN CL) := by
  refine F.ok sc_with_down (fun vs H Q E h => ?_) (fun cdv A outer s H vs Q E hr h => ?_)
  · obtain ⟨aL, n, i, rfl, _⟩ := h
    rfl
  · obtain ⟨aL, n, j, rfl, R, k⟩ := h
    have hu := hu_of hr
    obtain ⟨las, hl, hlen⟩ := R.len
    have hle := R.le
    refine ⟨_, (pss_cons (ps_set (i := 2) sc_with_down.nd rfl (Or.inl rfl) (pe_lst pa_nil))
      (pss_cons (ps_for PassesOwn.never rfl (pi_range1 (by rfl) T.nRange (pa_cons (pe_callB call_len_seq (by rfl) T.nLen PySem.boot_len (pa_cons (pv 0) pa_nil)) pa_nil)) (pg_name (i := 3) sc_with_down.nd rfl (Or.inl rfl))
      (pss_cons (ps_set (i := 4) sc_with_down.nd rfl (Or.inl rfl) (pe_ix ix_list (pv 0) (pv 3) (fun _ _ => rfl)))
      (pss_one (ps_expr (pe_bm PySem.F.plainAttrs_list PySem.F.slot_list_append PySem.F.type_list_append mt_append (pv 2) (pa_cons (pe_make c_Link_init.mkC c_Link_init.ok (hr.mono (by decide)) (by rfl) c_Link_init.mg c_Link_init.b .nil pass0 (pa_cons (pe_fld (pv 4) rfl) (pa_cons (pe_fld (pv 4) rfl) (pa_cons (pe_fld (pv 4) rfl) (pa_cons (pe_and (pe_fld (pv 4) rfl) (pe_one (pe_cmpR op_ne (pv 3) (pv 1) (nomark _)))) pa_nil))))) pa_nil))))))
      (pss_one (ps_ret (pv 2))))), ?_⟩
    refine ⟨Nat.zero_le _, fun D hD => ?_⟩
    have hlD : (upd H D (.lst [])) aL = some (.lst (las.map V.ref)) := by
      rw [upd_ne (ne_of_none hl hD)]
      exact hl
    refine ⟨_, rfl, _, _, rfl, .inl (SqL.of hlD), _, rfl, (b62 (m := 12) (by omega)).1, (b62 (m := 12) (by omega)).2, ?_⟩
    refine for_rng (n := (las.map V.ref).length) (fun i σ H' => ∃ v3 v4, σ = [some (.ref aL), some (iV j), some (.ref D), v3, v4] ∧ Same H H' ∧ ∃ nas : List Addr, LksAt CL H' D nas ((List.range i).map fun j' => { lnk n j' with up := (lnk n j').up && !decide (j' = j) }))
      ⟨none, none, rfl, same_upd hD, [], upd_same, Each.nil _⟩ (fun i σ H1 hi hP => ?_) (fun σ H1 hP => ?_)
    · obtain ⟨v3, v4, rfl, sm, nas, LA⟩ := hP
      have hi' : i < n.links.length := by rw [← hlen]; exact hi
      obtain ⟨las', la, g1, g2, g3, g4, dl, g5⟩ := (R.same sm).get hi'
      have hDl : nas.length = i := by
        have := LA.each.len
        rw [List.length_map, List.length_range] at this
        exact this
      refine ⟨_, rfl, _, rfl, _, _, _, _, rfl, rfl, SqL.of g1, at_nat g4, ?_⟩
      refine ⟨_, rfl, .inl ⟨rfl, _, SqL.of LA.lst⟩, ?_⟩
      refine ⟨_, rfl, _, _, _, _, _, rfl, g5, T.clL, T.nOne, lF_one _, ?_⟩
      refine ⟨_, rfl, _, _, _, _, _, rfl, g5, T.clL, T.nOther, lF_other _, ?_⟩
      refine ⟨_, rfl, _, _, _, _, _, rfl, g5, T.clL, T.nCost, lF_cost _, ?_⟩
      have fin : ∀ u : Bool, u = ((lnk n i).up && !decide (i = j)) → (tMake CL (sp_Link_init K CN CL) [] E0 (fun _ H Q => Q [iV (lnk n i).endA, iV (lnk n i).endB, iV (lnk n i).cost, .bl u] H)) [] H1 (fun x H2 => ∃ l xs y, V.ref D = V.ref l ∧ [x] = [y] ∧ H2 l = some (.lst xs) ∧ xs.length < sizeLine ∧
          (∃ v3 v4, [some (V.ref aL), some (iV j), some (.ref D), some (iV i), some (.ref la)] = [some (V.ref aL), some (iV j), some (.ref D), v3, v4] ∧ Same H (upd H2 l (.lst (xs ++ [y]))) ∧ ∃ nas : List Addr, LksAt CL (upd H2 l (.lst (xs ++ [y]))) D nas ((List.range (i + 1)).map fun j' => { lnk n j' with up := (lnk n j').up && !decide (j' = j) }))) := by
        intro u hu'
        intro x dx nx ndx nex
        refine ⟨x, dx, { lnk n i with up := u }, rfl, upd_same, fun H2 h2 ho => ⟨rfl, ?_⟩⟩
        have s12 : Same H1 H2 := fun b o e => by
          rw [ho b (ne_of_none e nx), upd_ne (ne_of_none e nx), upd_ne (ne_of_none e ndx)]
          exact e
        have nDx : D ≠ x := ne_of_none LA.lst nx
        have z := LA.same s12
        refine ⟨D, _, _, rfl, rfl, z.lst, by rw [List.length_map, hDl]; exact small_of (m := 12) (by omega), _, _, rfl, ?_, nas ++ [x], ?_, ?_⟩
        · exact same_grow (sm.trans s12) hD
        · rw [upd_same, List.map_append]
          rfl
        · rw [range_map_more]
          refine (z.each.mono fun a l' ha r => r.imp fun d' q => ?_).snoc ⟨dx, ?_⟩
          · rw [upd_ne (ne_of q z.lst (by intro z; cases z))]
            exact q
          · rw [upd_ne nDx.symm, ← hu']
            exact h2
      refine ⟨_, rfl, _, _, _, _, _, rfl, g5, T.clL, T.nUp, lF_up _, _, rfl, ?_⟩
      refine ite2 (fun c => ?_) (fun c => ?_)
      · refine ⟨_, rfl, _, rfl, rfl, ?_⟩
        exact fin _ (by rw [c, dec_iV]; rfl)
      · exact fin false (by rw [Bool.eq_false_iff.mpr c]; rfl)
    · obtain ⟨v3, v4, rfl, sm, nas, LA⟩ := hP
      refine ⟨_, rfl, k _ _ nas sm ?_⟩
      rw [hlen] at LA
      exact LA
end
end TB
end
section
namespace TB
open PySem PySem.Spec PyProof.Rows L2
theorem lex4 (a b c d a' b' c' d' : Int) : HT.lexLt [a, b, c, d] [a', b', c', d'] = decide (a < a' ∨ (a = a' ∧ (b < b' ∨ (b = b' ∧ (c < c' ∨ (c = c' ∧ d < d')))))) := by
  simp only [HT.lexLt_cons, HT.lexLt_nil_nil]
  by_cases h1 : a = a'
  · rw [if_pos h1]
    by_cases h2 : b = b'
    · rw [if_pos h2]
      by_cases h3 : c = c'
      · rw [if_pos h3]
        by_cases h4 : d = d'
        · rw [if_pos h4]
          exact (decide_eq_false (by omega)).symm
        · rw [if_neg h4, Bool.eq_iff_iff, decide_eq_true_eq, decide_eq_true_eq]
          omega
      · rw [if_neg h3, Bool.eq_iff_iff, decide_eq_true_eq, decide_eq_true_eq]
        omega
    · rw [if_neg h2, Bool.eq_iff_iff, decide_eq_true_eq, decide_eq_true_eq]
      omega
  · rw [if_neg h1, Bool.eq_iff_iff, decide_eq_true_eq, decide_eq_true_eq]
    omega
/-- the tuples are compared as the paths are -/
theorem lex_better {n : Net} {x o : RP} (hx : OkP n x) (ho : o.via < n.links.length) (hc : 1 ≤ o.cost) : HT.lexLt (pT n.links.length o) (pT n.links.length x) = Su200.isBetter o x := by
  obtain ⟨hx⟩ := hx
  unfold pT
  rw [lex4, if_pos ho, if_pos ho, Bool.eq_iff_iff, decide_eq_true_eq]
  unfold Su200.isBetter
  simp only [Bool.or_eq_true, Bool.and_eq_true, decide_eq_true_eq, beq_iff_eq]
  rcases hx with hx | ⟨hx, h0, h1⟩
  · rw [if_pos hx, if_pos hx]
    omega
  · rw [if_neg (by omega), if_neg (by omega)]
    omega
theorem hop_up {n : Net} {ps : List RP} {b i : Nat} {x : RP} (c : (lnk n i).up = true) : hop n ps b x i = if Su200.isBetter (offer n ps (i, far (lnk n i) b)) x = true then offer n ps (i, far (lnk n i) b) else x := by
  unfold hop better
  rw [if_pos c]
theorem hop_down {n : Net} {ps : List RP} {b i : Nat} {x : RP} (c : ¬ (lnk n i).up = true) : hop n ps b x i = x := by
  unfold hop
  rw [if_neg c]
theorem pT_len (L : Nat) (p : RP) : (zV (pT L p)).length = 4 := rfl
theorem getD_at {α : Type} {l : List α} {i : Nat} (h : i < l.length) (d : α) : l[i]? = some (l.getD i d) := by
  rw [List.getD_eq_getElem?_getD, List.getElem?_eq_getElem h]
  rfl
section
variable {P : Program} {w : World} {K : PySem.W.Frag} {mg : Str → Option Value} {base : Heap} {CN CL tM : Addr}
/-! ### own_path, path_over -/
abbrev s_own_path : Stmt := topS 11
theorem sc_own_path : FnScope ["ids", "bridge"] ["ids", "bridge"] (defScope s_own_path) := ⟨rfl, rfl, rfl, by decide +kernel, rfl, by decide +kernel, by decide +kernel⟩
def sp_own_path (K : PySem.W.Frag) (CN CL : Addr) : Sp := fun vs H Q _ => ∃ (aI : Addr) (n : Net) (b : Nat), vs = [.ref aI, iV b] ∧ H aI = some (.lst (nV n.bridgeIds)) ∧ b < n.bridgeIds.length ∧
  ∀ p, H p = none → Q (.ref p) (upd H p (.tup (zV (pT n.links.length (Su200.ownPath n b)))))
theorem own_pT (n : Net) (b : Nat) : pT n.links.length (Su200.ownPath n b) = [(n.bridgeIds.getD b 0 : Int), 0, -1, -1] := by
  unfold pT Su200.ownPath
  simp only [Nat.lt_irrefl, if_false]
  rfl
theorem ok_own_path {f : Addr} {fd : FuncData} (F : Fun K "own_path" "own_path" s_own_path f fd) (T : Txt K mg CN CL tM) : FnOk P w K mg base CX0 1 f fd ["ids", "bridge"] (sp_own_path K CN CL) := by
  refine F.ok sc_own_path (fun vs H Q E h => ?_) (fun cdv A outer s H vs Q E hr h => ?_)
  · obtain ⟨aI, n, b, rfl, _⟩ := h
    rfl
  · obtain ⟨aI, n, b, rfl, h1, hb, k⟩ := h
    have hu := hu_of hr
    refine ⟨_, (pss_one (ps_ret (pe_tup (pa_cons (pe_ix ix_list (pv 0) (pv 1) (fun _ _ => rfl)) (pa_cons pe_int (pa_cons (pe_cst rfl T.c_NONE) (pa_cons (pe_cst rfl T.c_NONE) pa_nil))))))), ?_⟩
    refine ⟨_, rfl, _, rfl, _, _, _, _, rfl, rfl, SqL.of h1, at_nat (nV_get hb 0), (by show 4 ≤ sizeLine; decide), fun p hp => ?_⟩
    have z := k p hp
    rw [own_pT] at z
    exact z
abbrev s_path_over : Stmt := topS 12
theorem sc_path_over : FnScope ["ids", "links", "paths", "bridge", "index", "neighbor", "known"] ["ids", "links", "paths", "bridge", "index"] (defScope s_path_over) := ⟨rfl, rfl, rfl, by decide +kernel, rfl, by decide +kernel, by decide +kernel⟩
def sp_path_over (K : PySem.W.Frag) (CN CL : Addr) : Sp := fun vs H Q _ => ∃ (aI aL aP : Addr) (n : Net) (ps : List RP) (b i : Nat), vs = [.ref aI, .ref aL, .ref aP, iV b, iV i] ∧ NetRd CL H aI aL n ∧ PathsAt n H aP ps ∧ ps.length = n.bridgeIds.length ∧ i < n.links.length ∧
  ∀ p, H p = none → Q (.ref p) (upd H p (.tup (zV (pT n.links.length (offer n ps (i, far (lnk n i) b))))))
theorem ok_path_over {f : Addr} {fd : FuncData} (F : Fun K "path_over" "path_over" s_path_over f fd) (T : Txt K mg CN CL tM) {f_far_end : Addr} {fd_far_end : FuncData} (c_far_end : Cal P w K mg base "far_end" 1 ["link", "bridge"] (sp_far_end K CN CL) f_far_end fd_far_end) : FnOk P w K mg base CX0 2 f fd ["ids", "links", "paths", "bridge", "index"] (sp_path_over K CN CL) := by
  refine F.ok sc_path_over (fun vs H Q E h => ?_) (fun cdv A outer s H vs Q E hr h => ?_)
  · obtain ⟨aI, aL, aP, n, ps, b, i, rfl, _⟩ := h
    rfl
  · obtain ⟨aI, aL, aP, n, ps, b, i, rfl, R, ⟨pas, p1, p2⟩, hps, hi, k⟩ := h
    have hu := hu_of hr
    obtain ⟨las, la, g1, g2, g3, g4, g5⟩ := R.lnk.get hi
    obtain ⟨dl, g6⟩ := id g5
    have hf : far (lnk n i) b < n.bridgeIds.length := far_lt R.wf hi b
    obtain ⟨pa, q1, q2, q3⟩ := p2.get (getD_at (l := ps) (i := far (lnk n i) b) (by rw [hps]; exact hf) (Su200.ownPath n (far (lnk n i) b)))
    refine ⟨_, (pss_cons (ps_set (i := 5) sc_path_over.nd rfl (Or.inl rfl) (pe_call c_far_end.ok (hr.mono (by decide)) (by rfl) c_far_end.mg c_far_end.kp c_far_end.b .nil pass0 (pa_cons (pe_ix ix_list (pv 1) (pv 4) (fun _ _ => rfl)) (pa_cons (pv 3) pa_nil))))
      (pss_cons (ps_set (i := 6) sc_path_over.nd rfl (Or.inl rfl) (pe_ix ix_list (pv 2) (pv 5) (fun _ _ => rfl)))
      (pss_one (ps_ret (pe_tup (pa_cons (pe_ix ix_tup (pv 6) (pe_cst rfl T.c_ROOT_ID) (fun _ _ => rfl)) (pa_cons (pe_op op_add (pe_ix ix_tup (pv 6) (pe_cst rfl T.c_COST) (fun _ _ => rfl)) (pe_fld (pe_ix ix_list (pv 1) (pv 4) (fun _ _ => rfl)) rfl)) (pa_cons (pe_ix ix_list (pv 0) (pv 5) (fun _ _ => rfl)) (pa_cons (pv 4) pa_nil))))))))), ?_⟩
    refine ⟨_, rfl, _, rfl, _, _, _, _, rfl, rfl, SqL.of g1, at_nat g4, _, rfl, la, _, b, rfl, g5, ?_⟩
    refine ⟨_, rfl, _, rfl, _, _, _, _, rfl, rfl, SqL.of p1, at_nat q2, ?_⟩
    have q4 : SqT K H pa (zV (pT n.links.length (ps.getD (far (lnk n i) b) (Su200.ownPath n (far (lnk n i) b))))) := SqT.of q3
    refine ⟨_, rfl, _, _, _, _, rfl, rfl, q4, at_nat (j := 0) rfl, ?_⟩
    refine ⟨_, rfl, _, _, _, _, rfl, rfl, q4, at_nat (j := 1) rfl, ?_⟩
    refine ⟨_, rfl, _, rfl, _, _, _, _, rfl, rfl, SqL.of g1, at_nat g4, _, _, _, _, _, rfl, g6, T.clL, T.nCost, lF_cost _, _, _, rfl, rfl, ?_⟩
    refine ⟨_, rfl, _, rfl, _, _, _, _, rfl, rfl, SqL.of R.ids, at_nat (nV_get hf 0), ?_⟩
    refine ⟨_, rfl, (by show 4 ≤ sizeLine; decide), fun p hp => ?_⟩
    have z := k p hp
    unfold pT at z
    have e1 : (offer n ps (i, far (lnk n i) b)).via = i := rfl
    rw [e1, if_pos hi, if_pos hi] at z
    exact z
/-! ### next_path -/
abbrev s_next_path : Stmt := topS 13
theorem sc_next_path : FnScope ["ids", "links", "paths", "bridge", "best", "index"] ["ids", "links", "paths", "bridge"] (defScope s_next_path) := ⟨rfl, rfl, rfl, by decide +kernel, rfl, by decide +kernel, by decide +kernel⟩
def sp_next_path (K : PySem.W.Frag) (CN CL : Addr) : Sp := fun vs H Q _ => ∃ (aI aL aP : Addr) (n : Net) (ps : List RP) (b : Nat), vs = [.ref aI, .ref aL, .ref aP, iV b] ∧ NetRd CL H aI aL n ∧ PathsAt n H aP ps ∧ ps.length = n.bridgeIds.length ∧ b < n.bridgeIds.length ∧
  ∀ (H' : Hp) (p : Addr), Same H H' → PathAt n H' p (Su200.nextPath n ps b) → Q (.ref p) H'
theorem ok_next_path {f : Addr} {fd : FuncData} (F : Fun K "next_path" "next_path" s_next_path f fd) (T : Txt K mg CN CL tM) {f_own_path : Addr} {fd_own_path : FuncData} (c_own_path : Cal P w K mg base "own_path" 1 ["ids", "bridge"] (sp_own_path K CN CL) f_own_path fd_own_path) {f_links_at : Addr} {fd_links_at : FuncData} (c_links_at : Cal P w K mg base "links_at" 2 ["links", "bridge"] (sp_links_at K CN CL) f_links_at fd_links_at) {f_path_over : Addr} {fd_path_over : FuncData} (c_path_over : Cal P w K mg base "path_over" 2 ["ids", "links", "paths", "bridge", "index"] (sp_path_over K CN CL) f_path_over fd_path_over) : FnOk P w K mg base CX0 3 f fd ["ids", "links", "paths", "bridge"] (sp_next_path K CN CL) := by
  refine F.ok sc_next_path (fun vs H Q E h => ?_) (fun cdv A outer s H vs Q E hr h => ?_)
  · obtain ⟨aI, aL, aP, n, ps, b, rfl, _⟩ := h
    rfl
  · obtain ⟨aI, aL, aP, n, ps, b, rfl, R, PS, hps, hb, k⟩ := h
    have hu := hu_of hr
    refine ⟨_, (pss_cons (ps_set (i := 4) sc_next_path.nd rfl (Or.inl rfl) (pe_call c_own_path.ok (hr.mono (by decide)) (by rfl) c_own_path.mg c_own_path.kp c_own_path.b .nil pass0 (pa_cons (pv 0) (pa_cons (pv 3) pa_nil))))
      (pss_cons (ps_for PassesOwn.never rfl (pi_list (pe_call c_links_at.ok (hr.mono (by decide)) (by rfl) c_links_at.mg c_links_at.kp c_links_at.b .nil pass0 (pa_cons (pv 1) (pa_cons (pv 3) pa_nil)))) (pg_name (i := 5) sc_next_path.nd rfl (Or.inl rfl))
      (pss_one (ps_if (pt_val (pe_fld (pe_ix ix_list (pv 1) (pv 5) (fun _ _ => rfl)) rfl))
      (pss_one (ps_set (i := 4) sc_next_path.nd rfl (Or.inl rfl) (pe_callB (call_minT rfl hr.units) (by rfl) T.nMin (by decide +kernel) (pa_cons (pv 4) (pa_cons (pe_call c_path_over.ok (hr.mono (by decide)) (by rfl) c_path_over.mg c_path_over.kp c_path_over.b .nil pass0 (pa_cons (pv 0) (pa_cons (pv 1) (pa_cons (pv 2) (pa_cons (pv 3) (pa_cons (pv 5) pa_nil)))))) pa_nil)))))
      pss_nil)))
      (pss_one (ps_ret (pv 4))))), ?_⟩
    refine ⟨_, rfl, _, rfl, aI, n, b, rfl, R.ids, hb, fun p0 hp0 => ?_⟩
    have s1 : Same H (upd H p0 (.tup (zV (pT n.links.length (Su200.ownPath n b))))) := same_upd hp0
    refine ⟨_, rfl, _, rfl, aL, n, b, rfl, (R.same s1).lnk, fun H2 D hD M => ?_⟩
    have s2 : Same H H2 := s1.trans M.same
    refine ⟨_, rfl, ⟨_, SqL.of M.at_⟩, ?_⟩
    refine for_list (K := K) (a := D) (xs := nV (lAt n b)) (fun i σ H' => ∃ v5 pb, σ = [some (.ref aI), some (.ref aL), some (.ref aP), some (iV b), some (.ref pb), v5] ∧ Same H2 H' ∧ PathAt n H' pb (((lAt n b).take i).foldl (hop n ps b) (Su200.ownPath n b)))
      ⟨none, p0, rfl, Same.refl _, M.same _ _ upd_same⟩ (fun i σ H' _ ⟨_, _, _, sm, _⟩ => SqL.of (sm _ _ M.at_)) (fun i x σ H' hx hP => ?_) (fun σ H' hP => ?_)
    · obtain ⟨v5, pb, rfl, sm, PB⟩ := hP
      obtain ⟨j, hj, rfl⟩ := nV_at hx
      have hjl := mem_lAt.mp (List.mem_of_getElem? hj)
      have R' := (R.same s2).same sm
      obtain ⟨las, la, g1, g2, g3, g4, dl, g5⟩ := R'.lnk.get hjl.1
      have hopj : ((lAt n b).take (i + 1)).foldl (hop n ps b) (Su200.ownPath n b) = hop n ps b (((lAt n b).take i).foldl (hop n ps b) (Su200.ownPath n b)) j := by
        rw [take_more hj, List.foldl_append]
        rfl
      have okx : OkP n (((lAt n b).take i).foldl (hop n ps b) (Su200.ownPath n b)) := okP_hops _ _ (fun y hy => (mem_lAt.mp (List.mem_of_mem_take hy)).1) (okP_own n b)
      refine ⟨_, rfl, _, rfl, _, _, _, _, rfl, rfl, SqL.of g1, at_nat g4, _, _, _, _, _, rfl, g5, T.clL, T.nUp, lF_up _, _, rfl, ?_⟩
      refine ite2 (fun c => ?_) (fun c => ?_)
      · refine ⟨_, rfl, _, rfl, _, rfl, _, rfl, _, rfl, _, rfl, ?_⟩
        refine ⟨aI, aL, aP, n, ps, b, j, rfl, R', (PS.same s2).same sm, hps, hjl.1, fun pn hpn => ?_⟩
        have s3 : Same H' (upd H' pn (.tup (zV (pT n.links.length (offer n ps (j, far (lnk n j) b)))))) := same_upd hpn
        refine ⟨pb, pn, _, _, rfl, SqT.of (s3 _ _ PB), SqT.of upd_same, ?_⟩
        have hcost : 1 ≤ (offer n ps (j, far (lnk n j) b)).cost := by
          have := (R.wf.ends _ (List.mem_of_getElem? (link_get hjl.1))).2.2.2.1
          show 1 ≤ _ + (Su200.link n j).cost
          omega
        rw [lex_better okx hjl.1 hcost]
        refine ⟨some (iV j), _, rfl, sm.trans s3, ?_⟩
        rw [hopj, hop_up c]
        by_cases q : Su200.isBetter (offer n ps (j, far (lnk n j) b)) (((lAt n b).take i).foldl (hop n ps b) (Su200.ownPath n b)) = true
        · rw [if_pos q, if_pos q]
          exact upd_same
        · rw [if_neg q, if_neg q]
          exact s3 _ _ PB
      · refine ⟨some (iV j), pb, rfl, sm, ?_⟩
        rw [hopj, hop_down c]
        exact PB
    · obtain ⟨v5, pb, rfl, sm, PB⟩ := hP
      refine ⟨_, rfl, k _ _ (s2.trans sm) ?_⟩
      rw [List.take_of_length_le (by rw [nV_len]; exact Nat.le_refl _)] at PB
      rw [nextPath_hops]
      exact PB
/-! ### first_paths, next_paths -/
abbrev s_first_paths : Stmt := topS 14
theorem sc_first_paths : FnScope ["ids", "bridge"] ["ids"] (defScope s_first_paths) := ⟨rfl, rfl, rfl, by decide +kernel, rfl, by decide +kernel, by decide +kernel⟩
def sp_first_paths (K : PySem.W.Frag) (CN CL : Addr) : Sp := fun vs H Q _ => ∃ (aI : Addr) (n : Net), vs = [.ref aI] ∧ WF n ∧ H aI = some (.lst (nV n.bridgeIds)) ∧
  ∀ (H' : Hp) (p : Addr), Same H H' → PathsAt n H' p (Su200.initialPaths n) → Q (.ref p) H'
/-- the new list of paths, in the making -/
structure PMade (n : Net) (H0 : Hp) (D : Addr) (ps : List RP) (H : Hp) : Prop where
  same : Same H0 H
  at_ : ∃ pas : List Addr, H D = some (.lst (pas.map V.ref)) ∧ Each (PathAt n H) pas ps
theorem PMade.start {n : Net} {H0 : Hp} {D : Addr} (h : H0 D = none) : PMade n H0 D [] (upd H0 D (.lst [])) := ⟨same_upd h, [], upd_same, Each.nil _⟩
theorem PMade.snoc {n : Net} {H0 H H' : Hp} {D pa : Addr} {ps ps' : List RP} {p : RP} (M : PMade n H0 D ps H) (h : H0 D = none) (s : Same H H') (hp : PathAt n H' pa p) (e : ps' = ps ++ [p]) (hz : ps.length ≤ 999) :
    ∃ acc, H' D = some (.lst acc) ∧ acc.length < sizeLine ∧ PMade n H0 D ps' (upd H' D (.lst (acc ++ [.ref pa]))) := by
  subst e
  obtain ⟨pas, m1, m2⟩ := M.at_
  have t : ∀ {a : Addr} {q : RP}, PathAt n H' a q → PathAt n (upd H' D (.lst (pas.map V.ref ++ [.ref pa]))) a q := fun {a q} z => by
    have z' : H' a = some (.tup _) := z
    show (upd H' D _) a = some (.tup _)
    rw [upd_ne (ne_of z' (s _ _ m1) (by intro q; cases q))]
    exact z'
  refine ⟨_, s _ _ m1, by rw [List.length_map, m2.len]; exact small_of hz, same_grow (M.same.trans s) h, pas ++ [pa], ?_, ?_⟩
  · rw [upd_same, List.map_append]
    rfl
  · exact (m2.mono fun a q _ z => t (s _ _ z)).snoc (t hp)
theorem PMade.paths {n : Net} {H0 H : Hp} {D : Addr} {ps : List RP} (M : PMade n H0 D ps H) : PathsAt n H D ps := M.at_
theorem ok_first_paths {f : Addr} {fd : FuncData} (F : Fun K "first_paths" "first_paths" s_first_paths f fd) (T : Txt K mg CN CL tM) {f_own_path : Addr} {fd_own_path : FuncData} (c_own_path : Cal P w K mg base "own_path" 1 ["ids", "bridge"] (sp_own_path K CN CL) f_own_path fd_own_path) : FnOk P w K mg base CX0 2 f fd ["ids"] (sp_first_paths K CN CL) := by
  refine F.ok sc_first_paths (fun vs H Q E h => ?_) (fun cdv A outer s H vs Q E hr h => ?_)
  · obtain ⟨aI, n, rfl, _⟩ := h
    rfl
  · obtain ⟨aI, n, rfl, W, h1, k⟩ := h
    have hu := hu_of hr
    have hle := W.idsLe
    have hlen : (nV n.bridgeIds).length = n.bridgeIds.length := nV_len _
    refine ⟨_, (pss_one (ps_ret (pe_lc (own := [("bridge", 1)]) (g := gName 1) rfl sc_first_paths.nd (pi_range1 (by rfl) T.nRange (pa_cons (pe_callB call_len_seq (by rfl) T.nLen PySem.boot_len (pa_cons (pv 0) pa_nil)) pa_nil)) (blkOk_by (N := ["ids", "bridge"]) (sc := defScope s_first_paths) (by decide +kernel)) (fun _ _ _ _ _ => (pg_name (i := 1) sc_first_paths.nd rfl (Or.inl rfl))) (fun _ _ _ _ _ => pts_nil) (fun _ _ _ _ _ => (pe_call c_own_path.ok (hr.mono (by decide)) (by rfl) c_own_path.mg c_own_path.kp c_own_path.b .nil pass0 (pa_cons (pv 0) (pa_cons (pv 1) pa_nil))))))), ?_⟩
    refine ⟨_, rfl, _, _, rfl, .inl (SqL.of h1), _, rfl, (b62 (m := 7) (by omega)).1, (b62 (m := 7) (by omega)).2, fun D hD => ?_⟩
    refine lc_rng (n := (nV n.bridgeIds).length) (fun i H' => PMade n H D ((List.range i).map (Su200.ownPath n)) H') (PMade.start hD) (fun i H1 hi M => ?_) (fun H1 M => ?_)
    · have hi' : i < n.bridgeIds.length := by rw [← hlen]; exact hi
      refine ⟨rfl, yes_of ?_⟩
      refine ⟨_, rfl, _, rfl, aI, n, i, rfl, M.same _ _ h1, hi', fun p hp => ?_⟩
      exact M.snoc hD (same_upd hp) (show PathAt n _ p _ from upd_same) (range_map_more _ _) (by rw [List.length_map, List.length_range]; omega)
    · refine k _ _ M.same ?_
      rw [hlen] at M
      exact M.paths
abbrev s_next_paths : Stmt := topS 15
theorem sc_next_paths : FnScope ["ids", "links", "paths", "bridge"] ["ids", "links", "paths"] (defScope s_next_paths) := ⟨rfl, rfl, rfl, by decide +kernel, rfl, by decide +kernel, by decide +kernel⟩
def sp_next_paths (K : PySem.W.Frag) (CN CL : Addr) : Sp := fun vs H Q _ => ∃ (aI aL aP : Addr) (n : Net) (ps : List RP), vs = [.ref aI, .ref aL, .ref aP] ∧ NetRd CL H aI aL n ∧ PathsAt n H aP ps ∧ ps.length = n.bridgeIds.length ∧
  ∀ (H' : Hp) (p : Addr), Same H H' → PathsAt n H' p (Su200.round n ps) → Q (.ref p) H'
theorem ok_next_paths {f : Addr} {fd : FuncData} (F : Fun K "next_paths" "next_paths" s_next_paths f fd) (T : Txt K mg CN CL tM) {f_next_path : Addr} {fd_next_path : FuncData} (c_next_path : Cal P w K mg base "next_path" 3 ["ids", "links", "paths", "bridge"] (sp_next_path K CN CL) f_next_path fd_next_path) : FnOk P w K mg base CX0 4 f fd ["ids", "links", "paths"] (sp_next_paths K CN CL) := by
  refine F.ok sc_next_paths (fun vs H Q E h => ?_) (fun cdv A outer s H vs Q E hr h => ?_)
  · obtain ⟨aI, aL, aP, n, ps, rfl, _⟩ := h
    rfl
  · obtain ⟨aI, aL, aP, n, ps, rfl, R, PS, hps, k⟩ := h
    have hu := hu_of hr
    have hle := R.wf.idsLe
    have hlen : (nV n.bridgeIds).length = n.bridgeIds.length := nV_len _
    refine ⟨_, (pss_one (ps_ret (pe_lc (own := [("bridge", 3)]) (g := gName 3) rfl sc_next_paths.nd (pi_range1 (by rfl) T.nRange (pa_cons (pe_callB call_len_seq (by rfl) T.nLen PySem.boot_len (pa_cons (pv 0) pa_nil)) pa_nil)) (blkOk_by (N := ["ids", "links", "paths", "bridge"]) (sc := defScope s_next_paths) (by decide +kernel)) (fun _ _ _ _ _ => (pg_name (i := 3) sc_next_paths.nd rfl (Or.inl rfl))) (fun _ _ _ _ _ => pts_nil) (fun _ _ _ _ _ => (pe_call c_next_path.ok (hr.mono (by decide)) (by rfl) c_next_path.mg c_next_path.kp c_next_path.b .nil pass0 (pa_cons (pv 0) (pa_cons (pv 1) (pa_cons (pv 2) (pa_cons (pv 3) pa_nil))))))))), ?_⟩
    refine ⟨_, rfl, _, _, rfl, .inl (SqL.of R.ids), _, rfl, (b62 (m := 7) (by omega)).1, (b62 (m := 7) (by omega)).2, fun D hD => ?_⟩
    refine lc_rng (n := (nV n.bridgeIds).length) (fun i H' => PMade n H D ((List.range i).map (Su200.nextPath n ps)) H') (PMade.start hD) (fun i H1 hi M => ?_) (fun H1 M => ?_)
    · have hi' : i < n.bridgeIds.length := by rw [← hlen]; exact hi
      refine ⟨rfl, yes_of ?_⟩
      refine ⟨_, rfl, _, rfl, _, rfl, _, rfl, aI, aL, aP, n, ps, i, rfl, R.same M.same, PS.same M.same, hps, hi', fun H2 p s2 hp => ?_⟩
      exact M.snoc hD s2 hp (range_map_more _ _) (by rw [List.length_map, List.length_range]; omega)
    · refine k _ _ M.same ?_
      rw [hlen] at M
      exact M.paths
/-! ### paths_after, converged_paths -/
abbrev s_paths_after : Stmt := topS 16
theorem sc_paths_after : FnScope ["ids", "links", "rounds", "paths", "turn"] ["ids", "links", "rounds"] (defScope s_paths_after) := ⟨rfl, rfl, rfl, by decide +kernel, rfl, by decide +kernel, by decide +kernel⟩
def sp_paths_after (K : PySem.W.Frag) (CN CL : Addr) : Sp := fun vs H Q _ => ∃ (aI aL : Addr) (n : Net) (k : Nat), vs = [.ref aI, .ref aL, iV k] ∧ NetRd CL H aI aL n ∧ k ≤ 1000 ∧
  ∀ (H' : Hp) (p : Addr), Same H H' → PathsAt n H' p (pk n k) → Q (.ref p) H'
theorem ok_paths_after {f : Addr} {fd : FuncData} (F : Fun K "paths_after" "paths_after" s_paths_after f fd) (T : Txt K mg CN CL tM) {f_first_paths : Addr} {fd_first_paths : FuncData} (c_first_paths : Cal P w K mg base "first_paths" 2 ["ids"] (sp_first_paths K CN CL) f_first_paths fd_first_paths) {f_next_paths : Addr} {fd_next_paths : FuncData} (c_next_paths : Cal P w K mg base "next_paths" 4 ["ids", "links", "paths"] (sp_next_paths K CN CL) f_next_paths fd_next_paths) : FnOk P w K mg base CX0 5 f fd ["ids", "links", "rounds"] (sp_paths_after K CN CL) := by
  refine F.ok sc_paths_after (fun vs H Q E h => ?_) (fun cdv A outer s H vs Q E hr h => ?_)
  · obtain ⟨aI, aL, n, m, rfl, _⟩ := h
    rfl
  · obtain ⟨aI, aL, n, m, rfl, R, hm, k⟩ := h
    have hu := hu_of hr
    refine ⟨_, (pss_cons (ps_set (i := 3) sc_paths_after.nd rfl (Or.inl rfl) (pe_call c_first_paths.ok (hr.mono (by decide)) (by rfl) c_first_paths.mg c_first_paths.kp c_first_paths.b .nil pass0 (pa_cons (pv 0) pa_nil)))
      (pss_cons (ps_for PassesOwn.never rfl (pi_range1 (by rfl) T.nRange (pa_cons (pv 2) pa_nil)) (pg_name (i := 4) sc_paths_after.nd rfl (Or.inl rfl))
      (pss_one (ps_set (i := 3) sc_paths_after.nd rfl (Or.inl rfl) (pe_call c_next_paths.ok (hr.mono (by decide)) (by rfl) c_next_paths.mg c_next_paths.kp c_next_paths.b .nil pass0 (pa_cons (pv 0) (pa_cons (pv 1) (pa_cons (pv 3) pa_nil)))))))
      (pss_one (ps_ret (pv 3))))), ?_⟩
    refine ⟨_, rfl, aI, n, rfl, R.wf, R.ids, fun H1 p1 s1 PS1 => ?_⟩
    refine ⟨_, rfl, _, rfl, (b62 (m := 1000) hm).1, (b62 (m := 1000) hm).2, ?_⟩
    refine for_rng (n := m) (fun i σ H' => ∃ v4 pp, σ = [some (.ref aI), some (.ref aL), some (iV m), some (.ref pp), v4] ∧ Same H H' ∧ PathsAt n H' pp (pk n i))
      ⟨none, p1, rfl, s1, PS1⟩ (fun i σ H2 hi hP => ?_) (fun σ H2 hP => ?_)
    · obtain ⟨v4, pp, rfl, sm, PS⟩ := hP
      refine ⟨_, rfl, _, rfl, _, rfl, aI, aL, pp, n, pk n i, rfl, R.same sm, PS, pk_length n i, fun H3 p3 s3 PS3 => ?_⟩
      refine ⟨_, p3, rfl, sm.trans s3, ?_⟩
      rw [pk_succ]
      exact PS3
    · obtain ⟨v4, pp, rfl, sm, PS⟩ := hP
      exact ⟨_, rfl, k _ _ sm PS⟩
abbrev s_converged_paths : Stmt := topS 17
theorem sc_converged_paths : FnScope ["ids", "links"] ["ids", "links"] (defScope s_converged_paths) := ⟨rfl, rfl, rfl, by decide +kernel, rfl, by decide +kernel, by decide +kernel⟩
def sp_converged_paths (K : PySem.W.Frag) (CN CL : Addr) : Sp := fun vs H Q _ => ∃ (aI aL : Addr) (n : Net), vs = [.ref aI, .ref aL] ∧ NetRd CL H aI aL n ∧
  ∀ (H' : Hp) (p : Addr), Same H H' → PathsAt n H' p (Su200.convergedPaths n) → Q (.ref p) H'
theorem ok_converged_paths {f : Addr} {fd : FuncData} (F : Fun K "converged_paths" "converged_paths" s_converged_paths f fd) (T : Txt K mg CN CL tM) {f_paths_after : Addr} {fd_paths_after : FuncData} (c_paths_after : Cal P w K mg base "paths_after" 5 ["ids", "links", "rounds"] (sp_paths_after K CN CL) f_paths_after fd_paths_after) : FnOk P w K mg base CX0 6 f fd ["ids", "links"] (sp_converged_paths K CN CL) := by
  refine F.ok sc_converged_paths (fun vs H Q E h => ?_) (fun cdv A outer s H vs Q E hr h => ?_)
  · obtain ⟨aI, aL, n, rfl, _⟩ := h
    rfl
  · obtain ⟨aI, aL, n, rfl, R, k⟩ := h
    have hu := hu_of hr
    have hle := R.wf.idsLe
    have hlen : (nV n.bridgeIds).length = n.bridgeIds.length := nV_len _
    refine ⟨_, (pss_one (ps_ret (pe_call c_paths_after.ok (hr.mono (by decide)) (by rfl) c_paths_after.mg c_paths_after.kp c_paths_after.b .nil pass0 (pa_cons (pv 0) (pa_cons (pv 1) (pa_cons (pe_callB call_len_seq (by rfl) T.nLen PySem.boot_len (pa_cons (pv 0) pa_nil)) pa_nil)))))), ?_⟩
    refine ⟨_, rfl, _, rfl, _, rfl, _, _, rfl, .inl (SqL.of R.ids), aI, aL, n, (nV n.bridgeIds).length, rfl, R, by omega, fun H1 p1 s1 PS1 => k _ _ s1 ?_⟩
    rw [hlen] at PS1
    exact PS1
end
end TB
end
section
namespace TB
open PySem PySem.Spec PyProof.Rows L2
/-! ### rows of ints as data -/
def rowD (r : List Int) : PyData := .tuple (r.map PyData.int)
def rowsD (rs : List (List Int)) : PyData := .list (rs.map rowD)
theorem eqv_ints : ∀ (xs ys : List Int), PyData.eqvAll (xs.map PyData.int) (ys.map PyData.int) = decide (xs = ys)
  | [], [] => rfl
  | [], _ :: _ => rfl
  | _ :: _, [] => rfl
  | x :: xs, y :: ys => by
    show (PyData.eqv (.int x) (.int y) && PyData.eqvAll (xs.map PyData.int) (ys.map PyData.int)) = _
    rw [eqv_ints xs ys, Bool.eq_iff_iff, Bool.and_eq_true, decide_eq_true_eq, decide_eq_true_eq]
    show (x == y) = true ∧ _ ↔ _
    rw [beq_iff_eq, List.cons.injEq]
theorem eqv_rows' : ∀ (rs qs : List (List Int)), PyData.eqvAll (rs.map rowD) (qs.map rowD) = decide (rs = qs)
  | [], [] => rfl
  | [], _ :: _ => rfl
  | _ :: _, [] => rfl
  | x :: xs, y :: ys => by
    show (PyData.eqvAll (x.map PyData.int) (y.map PyData.int) && PyData.eqvAll (xs.map rowD) (ys.map rowD)) = _
    rw [eqv_rows' xs ys, eqv_ints, Bool.eq_iff_iff, Bool.and_eq_true, decide_eq_true_eq, decide_eq_true_eq, decide_eq_true_eq, List.cons.injEq]
theorem eqv_rows (rs qs : List (List Int)) : PyData.eqv (rowsD rs) (rowsD qs) = decide (rs = qs) := eqv_rows' rs qs
theorem canLay_ints : ∀ l : List Int, PyData.canLayAll0 (l.map PyData.int) = true
  | [] => rfl
  | x :: l => by
    show (true && PyData.canLayAll0 (l.map PyData.int)) = true
    rw [canLay_ints l]
    rfl
theorem canLay_rows : ∀ l : List (List Int), PyData.canLayAll0 (l.map rowD) = true
  | [] => rfl
  | x :: l => by
    show (PyData.canLayAll0 (x.map PyData.int) && PyData.canLayAll0 (l.map rowD)) = true
    rw [canLay_ints, canLay_rows l]
    rfl
theorem depth_ints : ∀ l : List Int, PyData.depthAll (l.map PyData.int) = 0
  | [] => rfl
  | x :: l => by
    show max 0 (PyData.depthAll (l.map PyData.int)) = 0
    rw [depth_ints l]
    rfl
theorem depth_rows : ∀ l : List (List Int), PyData.depthAll (l.map rowD) ≤ 1
  | [] => Nat.zero_le _
  | x :: l => by
    show max (PyData.depthAll (x.map PyData.int) + 1) (PyData.depthAll (l.map rowD)) ≤ 1
    rw [depth_ints]
    have := depth_rows l
    omega
theorem shaped_rows (l : List (List Int)) : SeqAt.shaped (rowsD l) = true := by
  unfold SeqAt.shaped
  rw [Bool.and_eq_true, decide_eq_true_eq]
  refine ⟨canLay_rows l, ?_⟩
  show PyData.depthAll (l.map rowD) + 1 ≤ 64
  have := depth_rows l
  omega
def intsD (l : List Int) : PyData := .list (l.map PyData.int)
theorem shaped_ints (l : List Int) : SeqAt.shaped (intsD l) = true := by
  unfold SeqAt.shaped
  rw [Bool.and_eq_true, decide_eq_true_eq]
  refine ⟨canLay_ints l, ?_⟩
  show PyData.depthAll (l.map PyData.int) + 1 ≤ 64
  rw [depth_ints]
  decide
theorem eqv_intsD (l m : List Int) : PyData.eqv (intsD l) (intsD m) = decide (l = m) := eqv_ints l m
theorem dp_ints {K : PySem.W.Frag} {H : Hp} : ∀ l : List Int, DpAll K H (zV l) (l.map PyData.int)
  | [] => .nil
  | x :: l => .cons (.int x) (dp_ints l)
/-- a list of tuples of ints in the heap -/
def RowsAt (H : Hp) (a : Addr) (rs : List (List Int)) : Prop := ∃ as : List Addr, H a = some (.lst (as.map V.ref)) ∧ Each (fun b r => H b = some (.tup (zV r))) as rs
theorem dp_rows {K : PySem.W.Frag} {H : Hp} : ∀ {as : List Addr} {rs : List (List Int)}, Each (fun b r => H b = some (.tup (zV r))) as rs → DpAll K H (as.map V.ref) (rs.map rowD)
  | [], [], _ => .nil
  | [], _ :: _, e => by have := e.len; simp at this
  | _ :: _, [], e => by have := e.len; simp at this
  | a :: as, r :: rs, e => .cons (.tup (SqT.of (e.at_ 0 a r rfl rfl)) (dp_ints r)) (dp_rows ⟨by have := e.len; simpa using this, fun i b x h1 h2 => e.at_ (i + 1) b x h1 h2⟩)
theorem RowsAt.dp {K : PySem.W.Frag} {H : Hp} {a : Addr} {rs : List (List Int)} (h : RowsAt H a rs) : Dp K H (.ref a) (rowsD rs) := by
  obtain ⟨as, h1, h2⟩ := h
  exact .lst (SqL.of h1) (dp_rows h2)
theorem RowsAt.same {H H' : Hp} {a : Addr} {rs : List (List Int)} (s : Same H H') (h : RowsAt H a rs) : RowsAt H' a rs := by
  obtain ⟨as, h1, h2⟩ := h
  exact ⟨as, s _ _ h1, h2.mono fun _ _ _ q => s _ _ q⟩
theorem PathsAt.rows {n : Net} {H : Hp} {a : Addr} {ps : List RP} (h : PathsAt n H a ps) : RowsAt H a (ps.map (pT n.links.length)) := by
  obtain ⟨as, h1, h2⟩ := h
  refine ⟨as, h1, by rw [List.length_map]; exact h2.len, fun i b r e1 e2 => ?_⟩
  rw [List.getElem?_map] at e2
  cases q : ps[i]? with
  | none =>
    rw [q] at e2
    cases e2
  | some p =>
    rw [q] at e2
    cases e2
    exact h2.at_ i b p e1 q
theorem map_pT_inj {n : Net} : ∀ {ps qs : List RP}, (∀ p ∈ ps, OkP n p) → (∀ p ∈ qs, OkP n p) → ps.map (pT n.links.length) = qs.map (pT n.links.length) → ps = qs
  | [], [], _, _, _ => rfl
  | [], _ :: _, _, _, h => by simp at h
  | _ :: _, [], _, _, h => by simp at h
  | p :: ps, q :: qs, h1, h2, h => by
    rw [List.map_cons, List.map_cons] at h
    obtain ⟨a, b⟩ := List.cons.inj h
    rw [pT_inj (h1 p (by simp)) (h2 q (by simp)) a, map_pT_inj (fun x hx => h1 x (List.mem_cons_of_mem _ hx)) (fun x hx => h2 x (List.mem_cons_of_mem _ hx)) b]
theorem eq_paths (n : Net) (i j : Nat) : decide ((pk n i).map (pT n.links.length) = (pk n j).map (pT n.links.length)) = decide (pk n i = pk n j) := by
  rw [Bool.eq_iff_iff, decide_eq_true_eq, decide_eq_true_eq]
  exact ⟨map_pT_inj (okP_pk n i) (okP_pk n j), fun h => by rw [h]⟩
theorem inV_zV (a : Int) (l : List Int) : inV (.int a) (zV l) = l.contains a := by
  unfold inV zV
  rw [List.any_map, List.contains_eq_any_beq, Bool.eq_iff_iff, List.any_eq_true, List.any_eq_true]
  constructor
  · rintro ⟨x, hx, h⟩
    have h : (x == a) = true := h
    exact ⟨x, hx, by rw [beq_iff_eq] at h ⊢; exact h.symm⟩
  · rintro ⟨x, hx, h⟩
    refine ⟨x, hx, ?_⟩
    show (x == a) = true
    rw [beq_iff_eq] at h ⊢
    exact h.symm
theorem flat_zV (l : List Int) : (zV l).all flatV = true := by
  unfold zV
  rw [List.all_map, List.all_eq_true]
  intro x _
  rfl
/-! ### trails in the heap: a dict of lists -/
abbrev TrOk (H : Hp) (no : Addr) (kv : Key × V) (y : Nat × List Nat) : Prop := kv.1 = Sum.inl (y.1 : Int) ∧ ∃ la, kv.2 = .ref la ∧ la ≠ no ∧ H la = some (.lst (nV y.2))
theorem valV_trails {H : Hp} {no : Addr} : ∀ {kvs : List (Key × V)} {t : Trails}, Paired (TrOk H no) kvs t → ∀ b : Nat,
    (valV kvs (Sum.inl (b : Int))).isSome = (keys t).contains b ∧ (b ∈ keys t → ∃ la, valV kvs (Sum.inl (b : Int)) = some (.ref la) ∧ la ≠ no ∧ H la = some (.lst (nV (trail t b))))
  | _, _, .nil, b => ⟨rfl, fun h => by cases h⟩
  | kv :: kvs, y :: t, .cons r p, b => by
    obtain ⟨r1, la, r2, r3, r4⟩ := r
    obtain ⟨i1, i2⟩ := valV_trails p b
    have kc : keys (y :: t) = y.1 :: keys t := rfl
    by_cases e : y.1 = b
    · have e1 : kv.1 = Sum.inl (b : Int) := by rw [r1, e]
      rw [valV_pos e1, kc, r2]
      refine ⟨by rw [e]; simp, fun _ => ⟨la, rfl, r3, ?_⟩⟩
      unfold trail
      rw [List.find?_cons_of_pos (by simpa using e)]
      exact r4
    · have e1 : ¬ kv.1 = Sum.inl (b : Int) := by
        rw [r1]
        intro q
        exact e (Int.ofNat.inj (Sum.inl.inj q))
      rw [valV_neg e1, kc]
      refine ⟨?_, fun h => ?_⟩
      · rw [i1, List.contains_cons]
        have : (b == y.1) = false := by simpa using Ne.symm e
        rw [this, Bool.false_or]
      · rcases List.mem_cons.mp h with h | h
        · exact absurd h.symm e
        · have := i2 h
          unfold trail
          rw [List.find?_cons_of_neg (by simpa using e)]
          exact this
theorem keys_trails {H : Hp} {no : Addr} : ∀ {kvs : List (Key × V)} {t : Trails}, Paired (TrOk H no) kvs t → kvs.map (·.1) = ((keys t).map fun (x : Nat) => (x : Int)).map Sum.inl
  | _, _, .nil => rfl
  | kv :: kvs, y :: t, .cons r p => by
    show kv.1 :: kvs.map (·.1) = Sum.inl (y.1 : Int) :: ((keys t).map fun (x : Nat) => (x : Int)).map Sum.inl
    rw [keys_trails p, r.1]
theorem paired_snoc {α β : Type} {F : α → β → Prop} : ∀ {l : List α} {m : List β}, Paired F l m → ∀ {a : α} {b : β}, F a b → Paired F (l ++ [a]) (m ++ [b])
  | _, _, .nil, _, _, h => .cons h .nil
  | _, _, .cons r p, _, _, h => .cons r (paired_snoc p h)
theorem putK_new {kvs : List (Key × V)} {k : Key} {v : V} (h : (valV kvs k).isSome = false) : putK kvs k v = kvs ++ [(k, v)] := by
  unfold putK
  rw [valV_any, h]
  exact if_neg Bool.false_ne_true
def TrailsAt (H : Hp) (aD no : Addr) (t : Trails) : Prop := ∃ kvs, H aD = some (.dK kvs) ∧ Paired (TrOk H no) kvs t
theorem TrailsAt.same {H H' : Hp} {aD no : Addr} {t : Trails} (s : Same H H') (h : TrailsAt H aD no t) : TrailsAt H' aD no t := by
  obtain ⟨kvs, h1, h2⟩ := h
  exact ⟨kvs, s _ _ h1, Paired.mapP h2 fun _ _ ⟨a, la, b, c, d⟩ => ⟨a, la, b, c, s _ _ d⟩⟩
/-- behind a store into the list that is none of them -/
theorem TrailsAt.past {H : Hp} {aD no : Addr} {t : Trails} {xs ys : List V} (h : TrailsAt H aD no t) (hn : H no = some (.lst xs)) : TrailsAt (upd H no (.lst ys)) aD no t := by
  obtain ⟨kvs, h1, h2⟩ := h
  refine ⟨kvs, ?_, Paired.mapP h2 fun _ _ ⟨a, la, b, c, d⟩ => ⟨a, la, b, c, ?_⟩⟩
  · rw [upd_ne (ne_of h1 hn (by intro q; cases q))]
    exact h1
  · rw [upd_ne c]
    exact d
section
variable {P : Program} {w : World} {K : PySem.W.Frag} {mg : Str → Option Value} {base : Heap} {CN CL tM : Addr}
/-! ### rounds_to_converge -/
abbrev s_rounds_to_converge : Stmt := topS 18
theorem sc_rounds_to_converge : FnScope ["ids", "links", "paths", "rounds", "later"] ["ids", "links"] (defScope s_rounds_to_converge) := ⟨rfl, rfl, rfl, by decide +kernel, rfl, by decide +kernel, by decide +kernel⟩
def sp_rounds_to_converge (K : PySem.W.Frag) (CN CL : Addr) : Sp := fun vs H Q _ => ∃ (aI aL : Addr) (n : Net), vs = [.ref aI, .ref aL] ∧ NetRd CL H aI aL n ∧
  ∀ H' : Hp, Same H H' → Q (iV (Su200.roundsToConverge n)) H'
theorem ok_rounds_to_converge {f : Addr} {fd : FuncData} (F : Fun K "rounds_to_converge" "rounds_to_converge" s_rounds_to_converge f fd) (T : Txt K mg CN CL tM) {f_first_paths : Addr} {fd_first_paths : FuncData} (c_first_paths : Cal P w K mg base "first_paths" 2 ["ids"] (sp_first_paths K CN CL) f_first_paths fd_first_paths) {f_next_paths : Addr} {fd_next_paths : FuncData} (c_next_paths : Cal P w K mg base "next_paths" 4 ["ids", "links", "paths"] (sp_next_paths K CN CL) f_next_paths fd_next_paths) : FnOk P w K mg base CX0 5 f fd ["ids", "links"] (sp_rounds_to_converge K CN CL) := by
  refine F.ok sc_rounds_to_converge (fun vs H Q E h => ?_) (fun cdv A outer s H vs Q E hr h => ?_)
  · obtain ⟨aI, aL, n, rfl, _⟩ := h
    rfl
  · obtain ⟨aI, aL, n, rfl, R, k⟩ := h
    have hu := hu_of hr
    have hle := R.wf.idsLe
    have hlen : (nV n.bridgeIds).length = n.bridgeIds.length := nV_len _
    refine ⟨_, (pss_cons (ps_set (i := 2) sc_rounds_to_converge.nd rfl (Or.inl rfl) (pe_call c_first_paths.ok (hr.mono (by decide)) (by rfl) c_first_paths.mg c_first_paths.kp c_first_paths.b .nil pass0 (pa_cons (pv 0) pa_nil)))
      (pss_cons (ps_for PassesOwn.never rfl (pi_range1 (by rfl) T.nRange (pa_cons (pe_callB call_len_seq (by rfl) T.nLen PySem.boot_len (pa_cons (pv 0) pa_nil)) pa_nil)) (pg_name (i := 3) sc_rounds_to_converge.nd rfl (Or.inl rfl))
      (pss_cons (ps_set (i := 4) sc_rounds_to_converge.nd rfl (Or.inl rfl) (pe_call c_next_paths.ok (hr.mono (by decide)) (by rfl) c_next_paths.mg c_next_paths.kp c_next_paths.b .nil pass0 (pa_cons (pv 0) (pa_cons (pv 1) (pa_cons (pv 2) pa_nil)))))
      (pss_cons (ps_if (pt_cmpR (op_eqD hr.units) (pv 4) (pv 2) (nomark _))
      (pss_one (ps_ret (pv 3)))
      pss_nil)
      (pss_one (ps_set (i := 2) sc_rounds_to_converge.nd rfl (Or.inl rfl) (pv 4))))))
      (pss_one (ps_ret (pe_callB call_len_seq (by rfl) T.nLen PySem.boot_len (pa_cons (pv 0) pa_nil)))))), ?_⟩
    refine ⟨_, rfl, aI, n, rfl, R.wf, R.ids, fun H1 p1 s1 PS1 => ?_⟩
    refine ⟨_, rfl, _, _, rfl, .inl (SqL.of (s1 _ _ R.ids)), _, rfl, (b62 (m := 7) (by omega)).1, (b62 (m := 7) (by omega)).2, ?_⟩
    refine for_rng (n := (nV n.bridgeIds).length) (fun i σ H' => ∃ v3 v4 pp, σ = [some (.ref aI), some (.ref aL), some (.ref pp), v3, v4] ∧ Same H H' ∧ PathsAt n H' pp (pk n i) ∧ ∀ j, j < i → pk n (j + 1) ≠ pk n j)
      ⟨none, none, p1, rfl, s1, PS1, fun j hj => absurd hj (Nat.not_lt_zero _)⟩ (fun i σ H2 hi hP => ?_) (fun σ H2 hP => ?_)
    · obtain ⟨v3, v4, pp, rfl, sm, PS, hj⟩ := hP
      have hi' : i < n.bridgeIds.length := by rw [← hlen]; exact hi
      refine ⟨_, rfl, _, rfl, _, rfl, aI, aL, pp, n, pk n i, rfl, R.same sm, PS, pk_length n i, fun H3 p3 s3 PS3 => ?_⟩
      rw [← pk_succ] at PS3
      refine ⟨_, rfl, _, rfl, _, _, PS3.rows.dp, (PS.same s3).rows.dp, shaped_rows _, shaped_rows _, _, rfl, ?_⟩
      rw [eqv_rows, eq_paths]
      refine ite2 (fun c => ?_) (fun c => ?_)
      · refine ⟨_, rfl, ?_⟩
        have z := k H3 (sm.trans s3)
        rw [rounds_first hi' (of_decide_eq_true c) hj] at z
        exact z
      · refine ⟨_, rfl, some (iV i), some (.ref p3), p3, rfl, sm.trans s3, PS3, fun j hji => ?_⟩
        by_cases e : j = i
        · subst e
          exact fun q => c (decide_eq_true q)
        · exact hj j (by omega)
    · obtain ⟨v3, v4, pp, rfl, sm, PS, hj⟩ := hP
      refine ⟨_, rfl, _, _, rfl, .inl (SqL.of (sm _ _ R.ids)), ?_⟩
      have z := k H2 sm
      rw [hlen] at hj
      rw [rounds_last hj] at z
      show Q (.int ((nV n.bridgeIds).length : Int)) H2
      rw [hlen]
      exact z
/-! ### tree_links, up_links, link_code -/
abbrev s_tree_links : Stmt := topS 39
theorem sc_tree_links : FnScope ["ids", "links", "used", "path", "index"] ["ids", "links"] (defScope s_tree_links) := ⟨rfl, rfl, rfl, by decide +kernel, rfl, by decide +kernel, by decide +kernel⟩
def sp_tree_links (K : PySem.W.Frag) (CN CL : Addr) : Sp := fun vs H Q _ => ∃ (aI aL : Addr) (n : Net), vs = [.ref aI, .ref aL] ∧ NetRd CL H aI aL n ∧
  ∀ (H' : Hp) (p : Addr), H p = none → Made H p (nV (Su200.treeLinks n)) H' → Q (.ref p) H'
theorem ok_tree_links {f : Addr} {fd : FuncData} (F : Fun K "tree_links" "tree_links" s_tree_links f fd) (T : Txt K mg CN CL tM) {f_converged_paths : Addr} {fd_converged_paths : FuncData} (c_converged_paths : Cal P w K mg base "converged_paths" 6 ["ids", "links"] (sp_converged_paths K CN CL) f_converged_paths fd_converged_paths) : FnOk P w K mg base CX0 7 f fd ["ids", "links"] (sp_tree_links K CN CL) := by
  refine F.ok sc_tree_links (fun vs H Q E h => ?_) (fun cdv A outer s H vs Q E hr h => ?_)
  · obtain ⟨aI, aL, n, rfl, _⟩ := h
    rfl
  · obtain ⟨aI, aL, n, rfl, R, k⟩ := h
    have hu := hu_of hr
    have hle := R.wf.linksLe
    have hne := R.wf.idsLe
    have hpl : (Su200.convergedPaths n).length = n.bridgeIds.length := pk_length n _
    refine ⟨_, (pss_cons (ps_set (i := 2) sc_tree_links.nd rfl (Or.inr rfl) (pe_lc (own := [("path", 3)]) (g := gName 3) rfl sc_tree_links.nd (pi_list (pe_call c_converged_paths.ok (hr.mono (by decide)) (by rfl) c_converged_paths.mg c_converged_paths.kp c_converged_paths.b .nil pass0 (pa_cons (pv 0) (pa_cons (pv 1) pa_nil)))) (blkOk_by (N := ["ids", "links", "used", "path", "index"]) (sc := defScope s_tree_links) (by decide +kernel)) (fun _ _ _ _ _ => (pg_name (i := 3) sc_tree_links.nd rfl (Or.inl rfl))) (fun _ _ _ _ _ => pts_nil) (fun _ _ _ _ _ => (pe_ix (ix_tupI K) (pv 3) (pe_cst rfl T.c_VIA) (fun _ _ => rfl)))))
      (pss_one (ps_ret (pe_lc (own := [("index", 4)]) (g := gName 4) rfl sc_tree_links.nd (pi_range1 (by rfl) T.nRange (pa_cons (pe_callB call_len_seq (by rfl) T.nLen PySem.boot_len (pa_cons (pv 1) pa_nil)) pa_nil)) (blkOk_by (N := ["ids", "links", "used", "path", "index"]) (sc := defScope s_tree_links) (by decide +kernel)) (fun _ _ _ _ _ => (pg_name (i := 4) sc_tree_links.nd rfl (Or.inl rfl))) (fun _ _ _ _ _ => (pts_one (pt_cmpR (op_in_seqI K) (pv 4) (pv 2) (by rfl)))) (fun _ _ _ _ _ => (pv 4)))))), ?_⟩
    refine ⟨_, rfl, _, rfl, aI, aL, n, rfl, R, fun H1 p1 s1 PS => ?_⟩
    obtain ⟨pas, c1, c2⟩ := id PS
    refine ⟨_, rfl, ⟨_, SqL.of c1⟩, fun D hD => ?_⟩
    refine lc_list (K := K) (a := p1) (xs := pas.map V.ref) (fun i H' => Made H1 D (zV (((Su200.convergedPaths n).take i).map fun p => viaZ n p.via)) H') (Made.start hD) (fun i H' _ M => SqL.of (M.same _ _ c1)) (fun i x H' hx M => ?_) (fun H2 M => ?_)
    · have hi : i < pas.length := by
        have := (List.getElem?_eq_some_iff.mp hx).1
        rwa [List.length_map] at this
      have hi2 : i < (Su200.convergedPaths n).length := by rw [← c2.len]; exact hi
      obtain ⟨pa, q1, q2, q3⟩ := c2.get (List.getElem?_eq_getElem hi2)
      have ex : x = .ref pa := Option.some.inj (hx.symm.trans q2)
      subst ex
      refine ⟨rfl, yes_of ?_⟩
      refine ⟨_, rfl, _, _, _, _, rfl, rfl, SqT.of (M.same _ _ q3), at_nat (j := 3) rfl, ?_⟩
      refine M.snoc hD (by show (zV _).length ≤ 999; unfold zV; rw [List.length_map, List.length_map, List.length_take]; omega) ?_
      rw [take_more (List.getElem?_eq_getElem hi2), List.map_append]
      unfold zV
      rw [List.map_append]
      rfl
    · have e : (Su200.convergedPaths n).take (pas.map V.ref).length = Su200.convergedPaths n := List.take_of_length_le (by rw [List.length_map, c2.len]; exact Nat.le_refl _)
      rw [e] at M
      have sH : Same H H2 := s1.trans M.same
      obtain ⟨las, hl, hlen⟩ := (R.lnk.same sH).len
      refine ⟨_, rfl, _, _, rfl, .inl (SqL.of hl), _, rfl, (b62 (m := 12) (by omega)).1, (b62 (m := 12) (by omega)).2, fun D2 hD2 => ?_⟩
      refine lc_rng (n := (las.map V.ref).length) (fun i H' => Made H2 D2 (nV ((List.range i).filter fun i => ((Su200.convergedPaths n).map fun p => viaZ n p.via).contains (i : Int))) H') (Made.start hD2) (fun i H3 hi M3 => ?_) (fun H3 M3 => ?_)
      · refine ⟨rfl, _, rfl, _, rfl, D, _, rfl, .inl (SqL.of (M3.same _ _ M.at_)), rfl, flat_zV _, _, rfl, ?_⟩
        refine ite2 (fun c => ?_) (fun c => ?_)
        · have c : inV (.int (i : Int)) (zV ((Su200.convergedPaths n).map fun p => viaZ n p.via)) = true := c
          rw [inV_zV] at c
          exact ⟨_, rfl, M3.snoc hD2 (Nat.le_trans (range_filter_len i) (by omega)) (range_keep (p := fun (i : Nat) => ((Su200.convergedPaths n).map fun p => viaZ n p.via).contains (i : Int)) c)⟩
        · have c : ¬ inV (.int (i : Int)) (zV ((Su200.convergedPaths n).map fun p => viaZ n p.via)) = true := c
          rw [inV_zV] at c
          exact M3.eq (range_skip (p := fun (i : Nat) => ((Su200.convergedPaths n).map fun p => viaZ n p.via).contains (i : Int)) c)
      · rw [hlen] at M3
        have e2 : Su200.treeLinks n = (List.range n.links.length).filter fun (i : Nat) => ((Su200.convergedPaths n).map fun p => viaZ n p.via).contains (i : Int) := treeLinks_eq n
        rw [← e2] at M3
        exact k _ _ (sH.free hD2) ⟨sH.trans M3.same, M3.at_⟩
abbrev s_up_links : Stmt := topS 40
theorem sc_up_links : FnScope ["links", "index"] ["links"] (defScope s_up_links) := ⟨rfl, rfl, rfl, by decide +kernel, rfl, by decide +kernel, by decide +kernel⟩
def sp_up_links (K : PySem.W.Frag) (CN CL : Addr) : Sp := fun vs H Q _ => ∃ (aL : Addr) (n : Net), vs = [.ref aL] ∧ LnkRd CL H aL n ∧
  ∀ (H' : Hp) (p : Addr), H p = none → Made H p (nV (upLinks n)) H' → Q (.ref p) H'
theorem ok_up_links {f : Addr} {fd : FuncData} (F : Fun K "up_links" "up_links" s_up_links f fd) (T : Txt K mg CN CL tM) : FnOk P w K mg base CX0 1 f fd ["links"] (sp_up_links K CN CL) := by
  refine F.ok sc_up_links (fun vs H Q E h => ?_) (fun cdv A outer s H vs Q E hr h => ?_)
  · obtain ⟨aL, n, rfl, _⟩ := h
    rfl
  · obtain ⟨aL, n, rfl, R, k⟩ := h
    have hu := hu_of hr
    obtain ⟨las, hl, hlen⟩ := R.len
    have hle := R.le
    refine ⟨_, (pss_one (ps_ret (pe_lc (own := [("index", 1)]) (g := gName 1) rfl sc_up_links.nd (pi_range1 (by rfl) T.nRange (pa_cons (pe_callB call_len_seq (by rfl) T.nLen PySem.boot_len (pa_cons (pv 0) pa_nil)) pa_nil)) (blkOk_by (N := ["links", "index"]) (sc := defScope s_up_links) (by decide +kernel)) (fun _ _ _ _ _ => (pg_name (i := 1) sc_up_links.nd rfl (Or.inl rfl))) (fun _ _ _ _ _ => (pts_one (pt_val (pe_fldI K (pe_ix (ix_listI K) (pv 0) (pv 1) (fun _ _ => rfl)) rfl)))) (fun _ _ _ _ _ => (pv 1))))), ?_⟩
    refine ⟨_, rfl, _, _, rfl, .inl (SqL.of hl), _, rfl, (b62 (m := 12) (by omega)).1, (b62 (m := 12) (by omega)).2, fun D hD => ?_⟩
    refine lc_rng (n := (las.map V.ref).length) (fun i H' => Made H D (nV ((List.range i).filter fun i => (lnk n i).up)) H') (Made.start hD) (fun i H1 hi M => ?_) (fun H1 M => ?_)
    · have hi' : i < n.links.length := by rw [← hlen]; exact hi
      obtain ⟨las', la, g1, g2, g3, g4, dl, g5⟩ := (R.same M.same).get hi'
      refine ⟨rfl, _, rfl, _, rfl, _, _, _, _, rfl, rfl, SqL.of g1, at_nat g4, _, _, _, _, _, rfl, g5, T.clL, T.nUp, lF_up _, _, rfl, ?_⟩
      refine ite2 (fun c => ?_) (fun c => ?_)
      · exact ⟨_, rfl, M.snoc hD (Nat.le_trans (range_filter_len i) (by omega)) (range_keep (p := fun i => (lnk n i).up) c)⟩
      · exact M.eq (range_skip (p := fun i => (lnk n i).up) c)
    · refine k _ _ hD ?_
      rw [hlen] at M
      exact M
abbrev s_link_code : Stmt := topS 45
theorem sc_link_code : FnScope ["index"] ["index"] (defScope s_link_code) := ⟨rfl, rfl, rfl, by decide +kernel, rfl, by decide +kernel, by decide +kernel⟩
def sp_link_code (K : PySem.W.Frag) (CN CL : Addr) : Sp := fun vs H Q _ => ∃ (n : Net) (i : Nat), vs = [.int (viaZ n i)] ∧ Q (iV (Su200.linkCode n i)) H
theorem ok_link_code {f : Addr} {fd : FuncData} (F : Fun K "link_code" "link_code" s_link_code f fd) (T : Txt K mg CN CL tM) : FnOk P w K mg base CX0 1 f fd ["index"] (sp_link_code K CN CL) := by
  refine F.ok sc_link_code (fun vs H Q E h => ?_) (fun cdv A outer s H vs Q E hr h => ?_)
  · obtain ⟨n, i, rfl, _⟩ := h
    rfl
  · obtain ⟨n, i, rfl, k⟩ := h
    have hu := hu_of hr
    refine ⟨_, (pss_one (ps_ret (pe_ifExp (pt_cmpR op_eq (pv 0) (pe_cst rfl T.c_NONE) (nomark _)) pe_int (pe_op op_add (pv 0) pe_int)))), ?_⟩
    refine ⟨_, rfl, rfl, _, rfl, ?_⟩
    unfold Su200.linkCode at k
    refine ite2 (fun c => ?_) (fun c => ?_)
    · have c : viaZ n i = -1 := V.int.inj (of_decide_eq_true c)
      have hi : ¬ i < n.links.length := fun q => by
        unfold viaZ at c
        rw [if_pos q] at c
        omega
      rw [if_neg hi] at k
      exact k
    · have c : ¬ viaZ n i = -1 := fun q => c (decide_eq_true (congrArg V.int q))
      have hi : i < n.links.length := by
        by_cases q : i < n.links.length
        · exact q
        · unfold viaZ at c
          rw [if_neg q] at c
          exact absurd rfl c
      rw [if_pos hi] at k
      refine ⟨_, rfl, _, _, rfl, rfl, ?_⟩
      unfold viaZ
      rw [if_pos hi]
      exact k
end
end TB
end
section
namespace TB
open PySem PySem.Spec PyProof.Rows L2
theorem take_map_keep {p : Nat → Bool} {f : Nat → Nat} {l : List Nat} {i x : Nat} (hx : l[i]? = some x) (h : p x = true) : nV (((l.take (i + 1)).filter p).map f) = nV (((l.take i).filter p).map f) ++ [iV (f x)] := by
  rw [take_more hx, List.filter_append, List.filter_cons_of_pos h, List.map_append]
  unfold nV
  rw [List.map_append]
  rfl
theorem take_map_skip {p : Nat → Bool} {f : Nat → Nat} {l : List Nat} {i x : Nat} (hx : l[i]? = some x) (h : ¬ p x = true) : nV (((l.take (i + 1)).filter p).map f) = nV (((l.take i).filter p).map f) := by
  rw [take_more hx, List.filter_append, List.filter_cons_of_neg h, List.filter_nil, List.append_nil]
theorem lAt_len (n : Net) (b : Nat) : (lAt n b).length ≤ n.links.length := by
  unfold lAt
  have := List.length_filter_le (fun i => atB (Su200.link n i) b) (List.range n.links.length)
  rwa [List.length_range] at this
section
variable {P : Program} {w : World} {K : PySem.W.Frag} {mg : Str → Option Value} {base : Heap} {CN CL tM : Addr}
/-! ### neighbors_over -/
abbrev s_neighbors_over : Stmt := topS 41
theorem sc_neighbors_over : FnScope ["links", "chosen", "bridge", "index"] ["links", "chosen", "bridge"] (defScope s_neighbors_over) := ⟨rfl, rfl, rfl, by decide +kernel, rfl, by decide +kernel, by decide +kernel⟩
def sp_neighbors_over (K : PySem.W.Frag) (CN CL : Addr) : Sp := fun vs H Q _ => ∃ (aL aC : Addr) (n : Net) (ch : List Nat) (b : Nat), vs = [.ref aL, .ref aC, iV b] ∧ LnkRd CL H aL n ∧ H aC = some (.lst (nV ch)) ∧
  ∀ (H' : Hp) (p : Addr), H p = none → Made H p (nV (nbOver n ch b)) H' → Q (.ref p) H'
theorem ok_neighbors_over {f : Addr} {fd : FuncData} (F : Fun K "neighbors_over" "neighbors_over" s_neighbors_over f fd) (T : Txt K mg CN CL tM) {f_far_end : Addr} {fd_far_end : FuncData} (c_far_end : Cal P w K mg base "far_end" 1 ["link", "bridge"] (sp_far_end K CN CL) f_far_end fd_far_end) {f_links_at : Addr} {fd_links_at : FuncData} (c_links_at : Cal P w K mg base "links_at" 2 ["links", "bridge"] (sp_links_at K CN CL) f_links_at fd_links_at) : FnOk P w K mg base CX0 3 f fd ["links", "chosen", "bridge"] (sp_neighbors_over K CN CL) := by
  refine F.ok sc_neighbors_over (fun vs H Q E h => ?_) (fun cdv A outer s H vs Q E hr h => ?_)
  · obtain ⟨aL, aC, n, ch, b, rfl, _⟩ := h
    rfl
  · obtain ⟨aL, aC, n, ch, b, rfl, R, hC, k⟩ := h
    have hu := hu_of hr
    have hle := R.le
    have hll := lAt_len n b
    refine ⟨_, (pss_one (ps_ret (pe_lc (own := [("index", 3)]) (g := gName 3) rfl sc_neighbors_over.nd (pi_list (pe_call c_links_at.ok (hr.mono (by decide)) (by rfl) c_links_at.mg c_links_at.kp c_links_at.b .nil pass0 (pa_cons (pv 0) (pa_cons (pv 2) pa_nil)))) (blkOk_by (N := ["links", "chosen", "bridge", "index"]) (sc := defScope s_neighbors_over) (by decide +kernel)) (fun _ _ _ _ _ => (pg_name (i := 3) sc_neighbors_over.nd rfl (Or.inl rfl))) (fun _ _ _ _ _ => (pts_one (pt_cmpR (op_in_seqI K) (pv 3) (pv 1) (by rfl)))) (fun _ _ _ _ _ => (pe_call c_far_end.ok (hr.mono (by decide)) (by rfl) c_far_end.mg c_far_end.kp c_far_end.b .nil pass0 (pa_cons (pe_ix (ix_listI K) (pv 0) (pv 3) (fun _ _ => rfl)) (pa_cons (pv 2) pa_nil))))))), ?_⟩
    refine ⟨_, rfl, _, rfl, aL, n, b, rfl, R, fun H1 p1 hp1 M1 => ?_⟩
    refine ⟨_, rfl, ⟨_, SqL.of M1.at_⟩, fun D hD => ?_⟩
    refine lc_list (K := K) (a := p1) (xs := nV (lAt n b)) (fun i H' => Made H1 D (nV ((((lAt n b).take i).filter fun i => ch.contains i).map fun i => far (lnk n i) b)) H') (Made.start hD) (fun i H' _ M => SqL.of (M.same _ _ M1.at_)) (fun i x H' hx M => ?_) (fun H2 M => ?_)
    · obtain ⟨j, hj, rfl⟩ := nV_at hx
      have hjl := mem_lAt.mp (List.mem_of_getElem? hj)
      have sH := M1.same.trans M.same
      obtain ⟨las, la, g1, g2, g3, g4, g5⟩ := (R.same sH).get hjl.1
      refine ⟨rfl, _, rfl, _, rfl, aC, _, rfl, .inl (SqL.of (sH _ _ hC)), rfl, flat_nV _, _, rfl, ?_⟩
      refine ite2 (fun c => ?_) (fun c => ?_)
      · have c : inV (iV j) (nV ch) = true := c
        rw [inV_nV] at c
        refine ⟨_, rfl, _, rfl, _, _, _, _, rfl, rfl, SqL.of g1, at_nat g4, _, rfl, la, _, b, rfl, g5, ?_⟩
        refine M.snoc hD ?_ (take_map_keep (p := fun i => ch.contains i) (f := fun i => far (lnk n i) b) hj c)
        rw [nV_len, List.length_map]
        refine Nat.le_trans (List.length_filter_le _ _) ?_
        rw [List.length_take]
        omega
      · have c : ¬ inV (iV j) (nV ch) = true := c
        rw [inV_nV] at c
        exact M.eq (take_map_skip (p := fun i => ch.contains i) (f := fun i => far (lnk n i) b) hj c)
    · rw [List.take_of_length_le (by rw [nV_len]; exact Nat.le_refl _)] at M
      exact k _ _ (M1.same.free hD) ⟨M1.same.trans M.same, M.at_⟩
/-! ### trails_from -/
abbrev s_trails_from : Stmt := topS 42
theorem sc_trails_from : FnScope ["links", "chosen", "bridge", "trails", "pending", "here", "neighbor"] ["links", "chosen", "bridge"] (defScope s_trails_from) := ⟨rfl, rfl, rfl, by decide +kernel, rfl, by decide +kernel, by decide +kernel⟩
def sp_trails_from (K : PySem.W.Frag) (CN CL : Addr) : Sp := fun vs H Q _ => ∃ (aL aC : Addr) (n : Net) (ch : List Nat) (b m : Nat) (r : Trails), vs = [.ref aL, .ref aC, iV b] ∧ LnkRd CL H aL n ∧ H aC = some (.lst (nV ch)) ∧
  Loop (bfsTurn (nbOver n ch)) m ([(b, [b])], [b]) (r, []) ∧ r.length ≤ 7 ∧
  ∀ (H' : Hp) (p no : Addr), Same H H' → TrailsAt H' p no r → Q (.ref p) H'
theorem ok_trails_from {f : Addr} {fd : FuncData} (F : Fun K "trails_from" "trails_from" s_trails_from f fd) (T : Txt K mg CN CL tM) {f_neighbors_over : Addr} {fd_neighbors_over : FuncData} (c_neighbors_over : Cal P w K mg base "neighbors_over" 3 ["links", "chosen", "bridge"] (sp_neighbors_over K CN CL) f_neighbors_over fd_neighbors_over) : FnOk P w K mg base CX0 4 f fd ["links", "chosen", "bridge"] (sp_trails_from K CN CL) := by
  refine F.ok sc_trails_from (fun vs H Q E h => ?_) (fun cdv A outer s H vs Q E hr h => ?_)
  · obtain ⟨aL, aC, n, ch, b, m, r, rfl, _⟩ := h
    rfl
  · obtain ⟨aL, aC, n, ch, b, m, r, rfl, R, hC, hL, hrl, k⟩ := h
    have hu := hu_of hr
    have hle := R.le
    refine ⟨_, (pss_cons (ps_set (i := 3) sc_trails_from.nd rfl (Or.inl rfl) (pe_disp (pps_cons (pv 2) (pe_lst (pa_cons (pv 2) pa_nil)) pps_nil) (by rfl) (by rfl) (fun z => by cases z) (by decide)))
      (pss_cons (ps_set (i := 4) sc_trails_from.nd rfl (Or.inl rfl) (pe_lst (pa_cons (pv 2) pa_nil)))
      (pss_cons (ps_while PassesOwn.never (pt_cmpR (op_neD hr.units) (pv 4) (pe_lst pa_nil) (nomark _))
      (pss_cons (ps_set (i := 5) sc_trails_from.nd rfl (Or.inl rfl) (pe_bm PySem.F.plainAttrs_list PySem.F.slot_list_pop PySem.F.type_list_pop mt_popAt (pv 4) (pa_cons pe_int pa_nil)))
      (pss_one (ps_for PassesOwn.never rfl (pi_list (pe_call c_neighbors_over.ok (hr.mono (by decide)) (by rfl) c_neighbors_over.mg c_neighbors_over.kp c_neighbors_over.b .nil pass0 (pa_cons (pv 0) (pa_cons (pv 1) (pa_cons (pv 5) pa_nil))))) (pg_name (i := 6) sc_trails_from.nd rfl (Or.inl rfl))
      (pss_one (ps_if (pt_cmp (pc_dnotin hu (pv 6) (pv 3)))
      (pss_cons (ps_dput hu (pv 3) (pv 6) (pe_op op_cat (pe_dget hu (pv 3) (pv 5) (fun _ _ => rfl)) (pe_lst (pa_cons (pv 6) pa_nil))) rfl)
      (pss_one (ps_expr (pe_bm PySem.F.plainAttrs_list PySem.F.slot_list_append PySem.F.type_list_append mt_append (pv 4) (pa_cons (pv 6) pa_nil)))))
      pss_nil))))))
      (pss_one (ps_ret (pv 3)))))), ?_⟩
    -- trails = {bridge: [bridge]}
    intro aD hD
    refine ⟨_, rfl, _, rfl, (by show 1 ≤ sizeLine; decide), fun a1 h1 => ?_⟩
    have n1 : aD ≠ a1 := ne_of_none upd_same h1
    refine ⟨by rw [upd_ne n1]; exact upd_same, [(Sum.inl (b : Int), .ref a1)], rfl, (by show 1 ≤ 15; decide), ?_⟩
    -- pending = [bridge]
    refine ⟨_, rfl, (by show 1 ≤ sizeLine; decide), fun aQ hQ => ?_⟩
    have hQD : aQ ≠ aD := fun e => by
      rw [e, upd_same] at hQ
      cases hQ
    have hQ1 : aQ ≠ a1 := fun e => by
      rw [e, upd_ne n1.symm, upd_same] at hQ
      cases hQ
    have hQ0 : H aQ = none := by
      rw [upd_ne hQD, upd_ne hQ1, upd_ne hQD] at hQ
      exact hQ
    have h10 : H a1 = none := by
      rw [upd_ne n1.symm] at h1
      exact h1
    -- the loop
    refine ⟨fun m σ H' => ∃ t q v5 v6, σ = [some (.ref aL), some (.ref aC), some (iV b), some (.ref aD), some (.ref aQ), v5, v6] ∧ Same H H' ∧ TrailsAt H' aD aQ t ∧ H' aQ = some (.lst (nV q)) ∧ Sz t q ∧ Loop (bfsTurn (nbOver n ch)) m (t, q) (r, []),
      ⟨m, [(b, [b])], [b], none, none, rfl, ?_, ⟨[(Sum.inl (b : Int), .ref a1)], ?_, .cons ⟨rfl, a1, rfl, hQ1.symm, ?_⟩ .nil⟩, upd_same, ⟨Nat.le_refl _, fun y hy => by rw [List.mem_singleton] at hy; subst hy; exact Nat.le_refl _, fun y hy => hy⟩, hL⟩, fun m σ H' hW => ?_⟩
    · exact same_grow (same_grow (same_grow (same_upd hD) h10) hD) hQ0
    · rw [upd_ne hQD.symm, upd_same]
      rfl
    · rw [upd_ne hQ1.symm, upd_ne n1.symm, upd_same]
      rfl
    · obtain ⟨t, q, v5, v6, rfl, sm, TA, hq, sz, lp⟩ := hW
      have htr := loop_len _ lp
      -- pending != []
      refine ⟨_, rfl, Nat.zero_le _, fun e0 he0 => ?_⟩
      have s0 : Same H' (upd H' e0 (.lst [])) := same_upd he0
      refine ⟨intsD (q.map fun (x : Nat) => (x : Int)), intsD [], ?_, .lst (SqL.of upd_same) .nil, shaped_ints _, shaped_ints _, _, rfl, ?_⟩
      · refine .lst (SqL.of (s0 _ _ hq)) ?_
        rw [nV_eq]
        exact dp_ints _
      rw [eqv_intsD]
      cases m with
      | zero =>
        obtain ⟨l1, l2⟩ := lp
        obtain ⟨rfl, rfl⟩ := Prod.mk.inj l2
        refine ite2 (fun c => ?_) (fun c => ?_)
        · exact absurd c (by decide)
        · exact ⟨_, rfl, k _ _ aQ (sm.trans s0) (TA.same s0)⟩
      | succ m =>
        obtain ⟨tq, l1, l2⟩ := lp
        cases q with
        | nil => cases l1
        | cons x q =>
          cases Option.some.inj l1
          refine ite2 (fun c => ?_) (fun c => ?_)
          · refine ⟨fun σ' H2 => ∃ t q v5 v6, σ' = [some (.ref aL), some (.ref aC), some (iV b), some (.ref aD), some (.ref aQ), v5, v6] ∧ Same H H2 ∧ TrailsAt H2 aD aQ t ∧ H2 aQ = some (.lst (nV q)) ∧ Sz t q ∧ Loop (bfsTurn (nbOver n ch)) m (t, q) (r, []), fun σ' H2 hN => ⟨m, Nat.lt_succ_self m, hN⟩, ?_⟩
            -- here = pending.pop(0)
            refine ⟨_, rfl, .inl ⟨rfl, _, SqL.of (s0 _ _ hq)⟩, aQ, _, 0, 0, iV x, rfl, rfl, s0 _ _ hq, by decide, by decide, seqIndex_of (Int.le_refl 0) (by rw [nV_len, List.length_cons]; omega), rfl, ?_⟩
            have sm1 : Same H (upd (upd H' e0 (.lst [])) aQ (.lst (nV q))) := same_grow (sm.trans s0) hQ0
            have TA1 : TrailsAt (upd (upd H' e0 (.lst [])) aQ (.lst (nV q))) aD aQ t := (TA.same s0).past (s0 _ _ hq)
            have sz1 : Sz t q := ⟨Nat.le_trans (Nat.le_succ _) sz.q, sz.t, fun y hy => sz.sub y (List.mem_cons_of_mem _ hy)⟩
            -- for neighbor in neighbors_over(links, chosen, here)
            refine ⟨_, rfl, _, rfl, _, rfl, aL, aC, n, ch, x, rfl, R.same sm1, sm1 _ _ hC, fun H2 p2 hp2 M2 => ?_⟩
            have sm2 : Same H H2 := sm1.trans M2.same
            refine ⟨p2, rfl, ⟨_, SqL.of M2.at_⟩, ?_⟩
            have nQ2 : p2 ≠ aQ := fun e => by
              rw [e, upd_same] at hp2
              cases hp2
            refine for_list (K := K) (a := p2) (xs := nV (nbOver n ch x)) (fun i σ H3 => ∃ v6, σ = [some (.ref aL), some (.ref aC), some (iV b), some (.ref aD), some (.ref aQ), some (iV x), v6] ∧ Same H H3 ∧ H3 p2 = some (.lst (nV (nbOver n ch x))) ∧
                TrailsAt H3 aD aQ (((nbOver n ch x).take i).foldl (addNb x) (t, q)).1 ∧ H3 aQ = some (.lst (nV (((nbOver n ch x).take i).foldl (addNb x) (t, q)).2)) ∧ x ∈ keys (((nbOver n ch x).take i).foldl (addNb x) (t, q)).1)
              ⟨v6, rfl, sm2, M2.at_, TA1.same M2.same, M2.same _ _ upd_same, ?_⟩ (fun i σ H3 _ hP => ?_) (fun i y σ H3 hy hP => ?_) (fun σ H3 hP => ?_)
            · exact sz.sub x (by simp)
            · obtain ⟨_, _, _, z, _⟩ := hP
              exact SqL.of z
            · obtain ⟨v6, rfl, sm3, h2, TA3, hq3, hx3⟩ := hP
              obtain ⟨j, hj, rfl⟩ := nV_at hy
              have nxt : ((nbOver n ch x).take (i + 1)).foldl (addNb x) (t, q) = addNb x (((nbOver n ch x).take i).foldl (addNb x) (t, q)) j := by
                rw [take_more hj, List.foldl_append]
                rfl
              have sz3 : Sz (((nbOver n ch x).take i).foldl (addNb x) (t, q)).1 (((nbOver n ch x).take i).foldl (addNb x) (t, q)).2 := adds_sz x _ (t, q) sz1
              have tl3 : (((nbOver n ch x).take i).foldl (addNb x) (t, q)).1.length ≤ 7 := Nat.le_trans (adds_take x _ (t, q) i) (Nat.le_trans (loop_len _ l2) hrl)
              rw [nxt]
              generalize ((nbOver n ch x).take i).foldl (addNb x) (t, q) = tq at TA3 hq3 hx3 sz3 tl3 ⊢
              obtain ⟨t3, q3⟩ := tq
              simp only at TA3 hq3 hx3 sz3 tl3 ⊢
              obtain ⟨kvs, d1, d2⟩ := id TA3
              have dl : kvs.length ≤ 7 := by
                have := Paired.length d2
                omega
              obtain ⟨vj1, vj2⟩ := valV_trails d2 j
              obtain ⟨lh, vx1, vx2, vx3⟩ := (valV_trails d2 x).2 hx3
              have ql : q3.length ≤ 7 := Nat.le_trans sz3.q tl3
              have thl : (trail t3 x).length ≤ 7 := Nat.le_trans (trail_len sz3 x) tl3
              refine ⟨_, rfl, _, rfl, aD, _, rfl, DGet.k (k := Sum.inl (j : Int)) d1, _, rfl, ?_⟩
              rw [vj1]
              refine ite2 (fun c => ?_) (fun c => ?_)
              · have c' : (keys t3).contains j = false := by
                  cases e : (keys t3).contains j with
                  | false => rfl
                  | true =>
                    rw [e] at c
                    cases c
                rw [c'] at vj1
                have ea : addNb x (t3, q3) j = (t3 ++ [(j, trail t3 x ++ [j])], q3 ++ [j]) := by
                  unfold addNb
                  rw [c']
                  rfl
                rw [ea]
                -- trails[here] + [neighbor]
                refine ⟨_, rfl, _, rfl, aD, .ref lh, rfl, by rw [← vx1]; exact DGet.k (k := Sum.inl (x : Int)) d1, _, rfl, (by show 1 ≤ sizeLine; decide), fun a4 h4 => ?_⟩
                have s4 : Same H3 (upd H3 a4 (.lst [iV j])) := same_upd h4
                refine ⟨lh, a4, _, _, rfl, rfl, s4 _ _ vx3, upd_same, by rw [nV_len]; exact size_of (m := 9) (by show (trail t3 x).length + 1 ≤ 9; omega), fun a5 h5 => ?_⟩
                have s5 : Same (upd H3 a4 (.lst [iV j])) (upd (upd H3 a4 (.lst [iV j])) a5 (.lst (nV (trail t3 x) ++ [iV j]))) := same_upd h5
                have s35 : Same H3 (upd (upd H3 a4 (.lst [iV j])) a5 (.lst (nV (trail t3 x) ++ [iV j]))) := s4.trans s5
                have h53 : H3 a5 = none := s4.free h5
                -- the store
                refine ⟨_, rfl, _, rfl, aD, _, rfl, DPut.k (k := Sum.inl (j : Int)) (s35 _ _ d1) (small_of (m := 9) (by omega)), ?_⟩
                rw [putK_new (by rw [vj1])]
                generalize hH5 : upd (upd H3 a4 (.lst [iV j])) a5 (.lst (nV (trail t3 x) ++ [iV j])) = H5 at s35
                have hQ5 : H5 aQ = some (.lst (nV q3)) := s35 _ _ hq3
                have hD5 : H5 aD = some (.dK kvs) := s35 _ _ d1
                have nDQ : aQ ≠ aD := ne_of hQ5 hD5 (by intro z; cases z)
                have hQ6 : (upd H5 aD (.dK (kvs ++ [(Sum.inl (j : Int), .ref a5)]))) aQ = some (.lst (nV q3)) := by
                  rw [upd_ne nDQ]
                  exact hQ5
                refine ⟨_, rfl, .inl ⟨rfl, _, SqL.of hQ6⟩, _, rfl, aQ, _, _, rfl, rfl, hQ6, by rw [nV_len]; exact small_of (m := 9) (by omega), some (iV j), rfl, ?_, ?_, ?_, ?_, ?_⟩
                · exact same_grow (same_grow (sm3.trans s35) hD) hQ0
                · rw [upd_ne nQ2, upd_ne (ne_of (s35 _ _ h2) hD5 (by intro z; cases z))]
                  exact s35 _ _ h2
                · refine TrailsAt.past (xs := nV q3) ⟨kvs ++ [(Sum.inl (j : Int), .ref a5)], upd_same, ?_⟩ hQ6
                  refine paired_snoc (Paired.mapP d2 fun _ _ z => by
                    obtain ⟨u1, la, u2, u3, u4⟩ := z
                    refine ⟨u1, la, u2, u3, ?_⟩
                    have u5 := s35 _ _ u4
                    rw [upd_ne (ne_of u5 hD5 (by intro z; cases z))]
                    exact u5) ⟨rfl, a5, rfl, ?_, ?_⟩
                  · exact (ne_of_none hq3 h53).symm
                  · have h5' : H5 a5 = some (.lst (nV (trail t3 x) ++ [iV j])) := by
                      rw [← hH5]
                      exact upd_same
                    rw [upd_ne (ne_of h5' hD5 (by intro z; cases z)), h5']
                    unfold nV
                    rw [List.map_append]
                    rfl
                · rw [upd_same]
                  unfold nV
                  rw [List.map_append]
                  rfl
                · show x ∈ keys (t3 ++ [(j, trail t3 x ++ [j])])
                  unfold keys
                  rw [List.map_append]
                  exact List.mem_append_left _ hx3
              · have c' : (keys t3).contains j = true := by
                  cases e : (keys t3).contains j with
                  | true => rfl
                  | false =>
                    rw [e] at c
                    exact absurd rfl c
                have ea : addNb x (t3, q3) j = (t3, q3) := by
                  unfold addNb
                  rw [c']
                  rfl
                rw [ea]
                exact ⟨some (iV j), rfl, sm3, h2, TA3, hq3, hx3⟩
            · obtain ⟨v6, rfl, sm3, h2, TA3, hq3, hx3⟩ := hP
              rw [List.take_of_length_le (by rw [nV_len]; exact Nat.le_refl _)] at TA3 hq3
              exact ⟨_, _, _, _, rfl, sm3, TA3, hq3, adds_sz x _ (t, q) sz1, l2⟩
          · exact absurd (show (!decide (((x :: q).map fun (x : Nat) => (x : Int)) = [])) = true from rfl) c
end
end TB
end
section
namespace TB
open PySem PySem.Spec PyProof.Rows L2
/-- a sorted permutation of casts comes from one of the numbers -/
theorem perm_casts {ys : List Int} {ks : List Nat} (h : ys.Perm (ks.map fun (x : Nat) => (x : Int))) (hs : ys.Pairwise (· ≤ ·)) : ∃ zs : List Nat, zs.Perm ks ∧ zs.Pairwise (· ≤ ·) ∧ ys.map V.int = nV zs := by
  refine ⟨ys.map Int.toNat, ?_, ?_, ?_⟩
  · have := h.map Int.toNat
    rw [List.map_map] at this
    have e : ks.map (Int.toNat ∘ fun (x : Nat) => (x : Int)) = ks := by
      have : (Int.toNat ∘ fun (x : Nat) => (x : Int)) = id := by
        funext x
        rfl
      rw [this, List.map_id]
    rw [e] at this
    exact this
  · rw [List.pairwise_map]
    exact hs.imp fun h => Int.toNat_le_toNat h
  · unfold nV
    rw [List.map_map]
    apply List.map_congr_left
    intro y hy
    have hm := h.mem_iff.mp hy
    obtain ⟨x, _, e⟩ := List.mem_map.mp hm
    show V.int y = V.int ((y.toNat : Nat) : Int)
    rw [← e]
    rfl
theorem RowsAt.snoc {H H' : Hp} {a p : Addr} {rs : List (List Int)} {r : List Int} (h : RowsAt H a rs) (s : Same H H') (hp : H' p = some (.tup (zV r))) :
    ∃ as : List Addr, H' a = some (.lst (as.map V.ref)) ∧ as.length = rs.length ∧ RowsAt (upd H' a (.lst (as.map V.ref ++ [.ref p]))) a (rs ++ [r]) := by
  obtain ⟨as, h1, h2⟩ := h
  have t : ∀ {b : Addr} {q : List Int}, H' b = some (.tup (zV q)) → (upd H' a (.lst (as.map V.ref ++ [.ref p]))) b = some (.tup (zV q)) := fun {b q} z => by
    rw [upd_ne (ne_of z (s _ _ h1) (by intro e; cases e))]
    exact z
  refine ⟨as, s _ _ h1, h2.len, as ++ [p], ?_, ?_⟩
  · rw [upd_same, List.map_append]
    rfl
  · exact (h2.mono fun b q _ z => t (s _ _ z)).snoc (t hp)
theorem RowsAt.past {H : Hp} {a b : Addr} {rs : List (List Int)} {xs ys : List V} (h : RowsAt H a rs) (hb : H b = some (.lst xs)) (ne : a ≠ b) : RowsAt (upd H b (.lst ys)) a rs := by
  obtain ⟨as, h1, h2⟩ := h
  refine ⟨as, by rw [upd_ne ne]; exact h1, h2.mono fun c q _ z => ?_⟩
  rw [upd_ne (ne_of z hb (by intro e; cases e))]
  exact z
theorem vs_contains (vs : Vs) (b : Nat) : (vs.map Prod.fst).contains b = vs.any fun z => z.1 == b := by
  rw [List.contains_eq_any_beq, List.any_map, Bool.eq_iff_iff, List.any_eq_true, List.any_eq_true]
  constructor
  · rintro ⟨x, hx, h⟩
    refine ⟨x, hx, ?_⟩
    have h : (b == x.1) = true := h
    rw [beq_iff_eq] at h ⊢
    exact h.symm
  · rintro ⟨x, hx, h⟩
    refine ⟨x, hx, ?_⟩
    show (b == x.1) = true
    rw [beq_iff_eq] at h ⊢
    exact h.symm
/-! ### forwarding tables in the heap -/
abbrev Lan := Su200.Lan
structure TabOk (d : Lan) (v : Nat) (kvs : List (Key × V)) : Prop where
  get : ∀ h : Nat, valV kvs (Sum.inl (h : Int)) = (Su200.tableEntry d v h).map fun i => V.int (viaZ d.network i)
  len : kvs.length = cnt d.learned v
/-- the tables' dicts are tas, one a bridge -/
structure TabsAt (H : Hp) (aT : Addr) (tas : List Addr) (d : Lan) : Prop where
  lst : H aT = some (.lst (tas.map V.ref))
  nd : tas.Nodup
  each : Each (fun ta v => ∃ kvs, H ta = some (.dK kvs) ∧ TabOk d v kvs) tas (List.range d.network.bridgeIds.length)
theorem TabsAt.same {H H' : Hp} {aT : Addr} {tas : List Addr} {d : Lan} (s : Same H H') (h : TabsAt H aT tas d) : TabsAt H' aT tas d :=
  ⟨s _ _ h.lst, h.nd, h.each.mono fun _ _ _ ⟨kvs, h1, h2⟩ => ⟨kvs, s _ _ h1, h2⟩⟩
theorem TabsAt.get {H : Hp} {aT : Addr} {tas : List Addr} {d : Lan} (h : TabsAt H aT tas d) {v : Nat} (hv : v < d.network.bridgeIds.length) : ∃ (ta : Addr) (kvs : List (Key × V)), tas[v]? = some ta ∧ (tas.map V.ref)[v]? = some (.ref ta) ∧ H ta = some (.dK kvs) ∧ TabOk d v kvs := by
  obtain ⟨ta, h1, h2, kvs, h3, h4⟩ := h.each.get (i := v) (x := v) (by rw [List.getElem?_range hv])
  exact ⟨ta, kvs, h1, h2, h3, h4⟩
/-- one visit's learning -/
theorem TabsAt.learn {H : Hp} {aT ta : Addr} {tas : List Addr} {d : Lan} {kvs : List (Key × V)} {src : Nat} {y : Nat × Nat} (h : TabsAt H aT tas d) (o : LearnOk d.network.bridgeIds.length d.learned) (hy : tas[y.1]? = some ta) (hk : H ta = some (.dK kvs)) (tk : TabOk d y.1 kvs) :
    TabsAt (upd H ta (.dK (putK kvs (Sum.inl (src : Int)) (.int (viaZ d.network y.2))))) aT tas { d with learned := learn1 src d.learned y } := by
  refine ⟨by rw [upd_ne (ne_of h.lst hk (by intro e; cases e))]; exact h.lst, h.nd, h.each.len, fun i a v h1 h2 => ?_⟩
  have ei : i = v := by
    have := (List.getElem?_eq_some_iff.mp h2).2
    rw [List.getElem_range] at this
    exact this
  subst ei
  obtain ⟨kv2, k1, k2⟩ := h.each.at_ i a i h1 h2
  by_cases e : i = y.1
  · subst e
    have ea : a = ta := Option.some.inj (h1.symm.trans hy)
    subst ea
    refine ⟨_, upd_same, fun host => ?_, ?_⟩
    · rw [valV_put]
      show _ = (entryOf (learn1 src d.learned y) y.1 host).map _
      rw [entry_learn1]
      by_cases c : host = src
      · rw [if_pos (by rw [c]), if_pos ⟨rfl, c⟩]
        rfl
      · rw [if_neg (show ¬ (Sum.inl (host : Int) : Key) = Sum.inl (src : Int) from fun q => c (Int.ofNat.inj (Sum.inl.inj q))), if_neg fun q => c q.2]
        exact tk.get host
    · show _ = cnt (learn1 src d.learned y) y.1
      rw [cnt_learn1 o]
      have hs := tk.get src
      by_cases c : (entryOf d.learned y.1 src).isSome = true
      · rw [if_neg (by rw [c]; simp)]
        have hs2 : (valV kvs (Sum.inl (src : Int))).isSome = true := by
          rw [hs, Option.isSome_map]
          exact c
        unfold putK
        rw [valV_any, hs2, if_pos rfl, List.length_map]
        exact tk.len
      · have c' : (entryOf d.learned y.1 src).isSome = false := by simpa using c
        rw [if_pos ⟨rfl, c'⟩]
        have hs2 : (valV kvs (Sum.inl (src : Int))).isSome = false := by
          rw [hs, Option.isSome_map]
          exact c'
        rw [TB.putK_new hs2, List.length_append, tk.len]
        rfl
  · have ne : a ≠ ta := fun q => e (by
      subst q
      exact nd_ix h.nd h1 hy)
    refine ⟨kv2, by rw [upd_ne ne]; exact k1, fun host => ?_, ?_⟩
    · show _ = (entryOf (learn1 src d.learned y) i host).map _
      rw [entry_learn1, if_neg fun q => e q.1]
      exact k2.get host
    · show _ = cnt (learn1 src d.learned y) i
      rw [cnt_learn1 o, if_neg fun q => e q.1]
      exact k2.len
section
variable {P : Program} {w : World} {K : PySem.W.Frag} {mg : Str → Option Value} {base : Heap} {CN CL tM : Addr}
/-! ### connected_bridges, tree_path -/
abbrev s_connected_bridges : Stmt := topS 43
theorem sc_connected_bridges : FnScope ["links", "bridge"] ["links", "bridge"] (defScope s_connected_bridges) := ⟨rfl, rfl, rfl, by decide +kernel, rfl, by decide +kernel, by decide +kernel⟩
def sp_connected_bridges (K : PySem.W.Frag) (CN CL : Addr) : Sp := fun vs H Q _ => ∃ (aL : Addr) (n : Net) (b : Nat), vs = [.ref aL, iV b] ∧ WF n ∧ LnkRd CL H aL n ∧ b < n.bridgeIds.length ∧
  ∀ (H' : Hp) (p : Addr), H p = none → Made H p (nV ((List.range (Su200.bridgeCount n)).filter fun x => (Su200.connectedBridges n b).contains x)) H' → Q (.ref p) H'
theorem ok_connected_bridges {f : Addr} {fd : FuncData} (F : Fun K "connected_bridges" "connected_bridges" s_connected_bridges f fd) (T : Txt K mg CN CL tM) {f_trails_from : Addr} {fd_trails_from : FuncData} (c_trails_from : Cal P w K mg base "trails_from" 4 ["links", "chosen", "bridge"] (sp_trails_from K CN CL) f_trails_from fd_trails_from) {f_up_links : Addr} {fd_up_links : FuncData} (c_up_links : Cal P w K mg base "up_links" 1 ["links"] (sp_up_links K CN CL) f_up_links fd_up_links) : FnOk P w K mg base CX0 5 f fd ["links", "bridge"] (sp_connected_bridges K CN CL) := by
  refine F.ok sc_connected_bridges (fun vs H Q E h => ?_) (fun cdv A outer s H vs Q E hr h => ?_)
  · obtain ⟨aL, n, b, rfl, _⟩ := h
    rfl
  · obtain ⟨aL, n, b, rfl, W, R, hb, k⟩ := h
    have hu := hu_of hr
    refine ⟨_, (pss_one (ps_ret (pe_callB (call_sortedDI rfl) (by rfl) T.nSorted (by decide +kernel) (pa_cons (pe_call c_trails_from.ok (hr.mono (by decide)) (by rfl) c_trails_from.mg c_trails_from.kp c_trails_from.b .nil pass0 (pa_cons (pv 0) (pa_cons (pe_call c_up_links.ok (hr.mono (by decide)) (by rfl) c_up_links.mg c_up_links.kp c_up_links.b .nil pass0 (pa_cons (pv 0) pa_nil)) (pa_cons (pv 1) pa_nil)))) pa_nil)))), ?_⟩
    refine ⟨_, rfl, _, rfl, aL, n, rfl, R, fun H1 p1 hp1 M1 => ?_⟩
    obtain ⟨m, r, lp, hrl, hys⟩ := trails_up W hb
    refine ⟨_, rfl, aL, p1, n, _, b, m, r, rfl, R.same M1.same, M1.at_, lp, hrl, fun H2 p2 no s2 TA => ?_⟩
    obtain ⟨kvs, t1, t2⟩ := TA
    refine ⟨p2, kvs, _, rfl, .of t1, keys_trails t2, ?_, fun ys p hp hs hn => ?_⟩
    · rw [List.length_map]
      unfold keys
      rw [List.length_map]
      omega
    · obtain ⟨zs, z1, z2, z3⟩ := perm_casts hp hs
      rw [z3, hys zs z1 z2]
      have sH : Same H H2 := M1.same.trans s2
      exact k _ _ (sH.free hn) ⟨sH.trans (same_upd hn), upd_same⟩
abbrev s_tree_path : Stmt := topS 44
theorem sc_tree_path : FnScope ["ids", "links", "start", "goal"] ["ids", "links", "start", "goal"] (defScope s_tree_path) := ⟨rfl, rfl, rfl, by decide +kernel, rfl, by decide +kernel, by decide +kernel⟩
def sp_tree_path (K : PySem.W.Frag) (CN CL : Addr) : Sp := fun vs H Q _ => ∃ (aI aL : Addr) (n : Net) (a b : Nat), vs = [.ref aI, .ref aL, iV a, iV b] ∧ NetRd CL H aI aL n ∧ a < n.bridgeIds.length ∧ b ∈ Su200.connectedBridges n a ∧
  ∀ (H' : Hp) (p : Addr) (l : List Nat), Same H H' → Su200.treePath n a b = some l → l.length ≤ 7 → H' p = some (.lst (nV l)) → Q (.ref p) H'
theorem ok_tree_path {f : Addr} {fd : FuncData} (F : Fun K "tree_path" "tree_path" s_tree_path f fd) (T : Txt K mg CN CL tM) {f_trails_from : Addr} {fd_trails_from : FuncData} (c_trails_from : Cal P w K mg base "trails_from" 4 ["links", "chosen", "bridge"] (sp_trails_from K CN CL) f_trails_from fd_trails_from) {f_tree_links : Addr} {fd_tree_links : FuncData} (c_tree_links : Cal P w K mg base "tree_links" 7 ["ids", "links"] (sp_tree_links K CN CL) f_tree_links fd_tree_links) : FnOk P w K mg base CX0 8 f fd ["ids", "links", "start", "goal"] (sp_tree_path K CN CL) := by
  refine F.ok sc_tree_path (fun vs H Q E h => ?_) (fun cdv A outer s H vs Q E hr h => ?_)
  · obtain ⟨aI, aL, n, a, b, rfl, _⟩ := h
    rfl
  · obtain ⟨aI, aL, n, a, b, rfl, R, ha, hb, k⟩ := h
    have hu := hu_of hr
    refine ⟨_, (pss_one (ps_ret (pe_dget hu (pe_call c_trails_from.ok (hr.mono (by decide)) (by rfl) c_trails_from.mg c_trails_from.kp c_trails_from.b .nil pass0 (pa_cons (pv 1) (pa_cons (pe_call c_tree_links.ok (hr.mono (by decide)) (by rfl) c_tree_links.mg c_tree_links.kp c_tree_links.b .nil pass0 (pa_cons (pv 0) (pa_cons (pv 1) pa_nil))) (pa_cons (pv 2) pa_nil)))) (pv 3) (fun _ _ => rfl)))), ?_⟩
    refine ⟨_, rfl, _, rfl, _, rfl, aI, aL, n, rfl, R, fun H1 p1 hp1 M1 => ?_⟩
    obtain ⟨m, r, lp, hrl, hys⟩ := trails_tree R.wf ha
    obtain ⟨y1, y2, y3⟩ := hys b hb
    refine ⟨_, rfl, aL, p1, n, _, a, m, r, rfl, R.lnk.same M1.same, M1.at_, lp, hrl, fun H2 p2 no s2 TA => ?_⟩
    obtain ⟨kvs, t1, t2⟩ := TA
    obtain ⟨la, v1, v2, v3⟩ := (valV_trails t2 b).2 y1
    exact ⟨_, rfl, p2, .ref la, rfl, by rw [← v1]; exact DGet.k (k := Sum.inl (b : Int)) t1, k _ _ _ (M1.same.trans s2) y2 y3 v3⟩
/-! ### links_for -/
abbrev s_links_for : Stmt := topS 20
theorem sc_links_for : FnScope ["links", "tree", "table", "visit", "destination", "bridge", "via", "wanted", "index"] ["links", "tree", "table", "visit", "destination"] (defScope s_links_for) := ⟨rfl, rfl, rfl, by decide +kernel, rfl, by decide +kernel, by decide +kernel⟩
def sp_links_for (K : PySem.W.Frag) (CN CL : Addr) : Sp := fun vs H Q _ => ∃ (aL aTr aTb aV : Addr) (n : Net) (tree : List Nat) (kvs : List (Key × V)) (b dest : Nat) (via : Int) (e : Option Int), vs = [.ref aL, .ref aTr, .ref aTb, .ref aV, iV dest] ∧ LnkRd CL H aL n ∧
  H aTr = some (.lst (nV tree)) ∧ H aTb = some (.dK kvs) ∧ H aV = some (.tup (zV [(b : Int), via])) ∧ valV kvs (Sum.inl (dest : Int)) = e.map V.int ∧
  ∀ (H' : Hp) (p : Addr), H p = none → Made H p (nV (lFor n tree e b via)) H' → Q (.ref p) H'
theorem ok_links_for {f : Addr} {fd : FuncData} (F : Fun K "links_for" "links_for" s_links_for f fd) (T : Txt K mg CN CL tM) {f_links_at : Addr} {fd_links_at : FuncData} (c_links_at : Cal P w K mg base "links_at" 2 ["links", "bridge"] (sp_links_at K CN CL) f_links_at fd_links_at) : FnOk P w K mg base CX0 3 f fd ["links", "tree", "table", "visit", "destination"] (sp_links_for K CN CL) := by
  refine F.ok sc_links_for (fun vs H Q E h => ?_) (fun cdv A outer s H vs Q E hr h => ?_)
  · obtain ⟨aL, aTr, aTb, aV, n, tree, kvs, b, dest, via, e, rfl, _⟩ := h
    rfl
  · obtain ⟨aL, aTr, aTb, aV, n, tree, kvs, b, dest, via, e, rfl, R, hTr, hTb, hV, he, k⟩ := h
    have hu := hu_of hr
    have hle := R.le
    have hll := lAt_len n b
    refine ⟨_, (pss_cons (ps_asg (pv 3) (pg_tup rfl (pgs_cons (pg_name (i := 5) sc_links_for.nd rfl (Or.inl rfl)) (pgs_cons (pg_name (i := 6) sc_links_for.nd rfl (Or.inr rfl)) pgs_nil))))
      (pss_cons (ps_setLc (i := 7) (own := [("index", 8)]) (g := gName 8) rfl sc_links_for.nd rfl rfl (sw_true rfl rfl rfl (by decide +kernel)) (pi_list (pe_call c_links_at.ok (hr.mono (by decide)) (by rfl) c_links_at.mg c_links_at.kp c_links_at.b .nil pass0 (pa_cons (pv 0) (pa_cons (pv 5) pa_nil)))) (blkOk_by (N := ["links", "tree", "table", "visit", "destination", "bridge", "via", "wanted", "index"]) (sc := defScope s_links_for) (by decide +kernel)) (fun _ _ _ _ _ => (pg_name (i := 8) sc_links_for.nd rfl (Or.inl rfl))) (fun _ _ _ _ _ => (pts_one (PW.pt (pw_and (pt_cmpR (op_in_seqI K) (pv 8) (pv 1) (by rfl)) (pw_and1 (pt_cmpR op_ne (pv 8) (pv 6) (nomark _))))))) (fun _ _ _ _ _ => (pv 8)))
      (pss_cons (ps_if (pt_cmp (pc_din hu (pv 4) (pv 2)))
      (pss_one (ps_ret (pe_lc (own := [("index", 8)]) (g := gName 8) rfl sc_links_for.nd (pi_list (pv 7)) (blkOk_by (N := ["links", "tree", "table", "visit", "destination", "bridge", "via", "wanted", "index"]) (sc := defScope s_links_for) (by decide +kernel)) (fun _ _ _ _ _ => (pg_name (i := 8) sc_links_for.nd rfl (Or.inl rfl))) (fun _ _ _ _ _ => (pts_one (pt_cmpR op_eq (pv 8) (pe_dget hu (pv 2) (pv 4) (fun _ _ => rfl)) (nomark _)))) (fun _ _ _ _ _ => (pv 8)))))
      pss_nil)
      (pss_one (ps_ret (pv 7)))))), ?_⟩
    -- bridge, via = visit
    refine ⟨_, rfl, aV, _, rfl, SqT.of hV, rfl, _, _, rfl, _, _, rfl, rfl, ?_⟩
    -- wanted
    refine ⟨_, rfl, _, rfl, aL, n, b, rfl, R, fun H1 p1 hp1 M1 => ?_⟩
    refine ⟨_, rfl, ⟨_, SqL.of M1.at_⟩, fun D hD => ?_⟩
    refine lc_list (K := K) (a := p1) (xs := nV (lAt n b)) (fun i H' => Made H1 D (nV (((lAt n b).take i).filter fun i => tree.contains i && !decide ((i : Int) = via))) H') (Made.start hD) (fun i H' _ M => SqL.of (M.same _ _ M1.at_)) (fun i x H' hx M => ?_) (fun H2 M => ?_)
    · obtain ⟨j, hj, rfl⟩ := nV_at hx
      have sH := M1.same.trans M.same
      refine ⟨rfl, _, rfl, _, rfl, aTr, _, rfl, .inl (SqL.of (sH _ _ hTr)), rfl, flat_nV _, _, rfl, ?_⟩
      have keep : ∀ q : Bool, q = (tree.contains j && !decide ((j : Int) = via)) → (if q = true then tVar 8 [some (.ref aL), some (.ref aTr), some (.ref aTb), some (.ref aV), some (iV dest), some (.int b), some (.int via), none, some (iV j)] H' (fun y H4 => ∃ acc, H4 D = some (.lst acc) ∧ acc.length < sizeLine ∧
          Made H1 D (nV (((lAt n b).take (i + 1)).filter fun i => tree.contains i && !decide ((i : Int) = via))) (upd H4 D (.lst (acc ++ [y])))) else Made H1 D (nV (((lAt n b).take (i + 1)).filter fun i => tree.contains i && !decide ((i : Int) = via))) H') := by
        intro q hq
        refine ite2 (fun c => ?_) (fun c => ?_)
        · refine ⟨_, rfl, M.snoc hD (Nat.le_trans (take_filter_len i) (by omega)) (take_keep (p := fun i => tree.contains i && !decide ((i : Int) = via)) hj (by rw [← hq]; exact c))⟩
        · exact M.eq (take_skip (p := fun i => tree.contains i && !decide ((i : Int) = via)) hj (by rw [← hq]; exact c))
      refine ite2 (fun c => ?_) (fun c => ?_)
      · have c : inV (iV j) (nV tree) = true := c
        rw [inV_nV] at c
        refine ⟨_, rfl, _, rfl, rfl, _, rfl, ?_⟩
        refine keep (!decide (V.int (j : Int) = V.int via)) ?_
        rw [c, Bool.true_and]
        congr 1
        rw [Bool.eq_iff_iff, decide_eq_true_eq, decide_eq_true_eq]
        exact ⟨fun h => V.int.inj h, fun h => congrArg V.int h⟩
      · have c : ¬ inV (iV j) (nV tree) = true := c
        rw [inV_nV] at c
        refine keep false ?_
        rw [Bool.eq_false_iff.mpr c]
        rfl
    · rw [List.take_of_length_le (by rw [nV_len]; exact Nat.le_refl _)] at M
      have M : Made H1 D (nV (wantedL n tree b via)) H2 := M
      have sH := M1.same.trans M.same
      have hw : (wantedL n tree b via).length ≤ 12 := by
        have := List.length_filter_le (fun (i : Nat) => tree.contains i && !decide ((i : Int) = via)) (lAt n b)
        unfold wantedL
        omega
      -- if destination in table
      refine ⟨_, rfl, _, rfl, aTb, _, rfl, DGet.k (k := Sum.inl (dest : Int)) (sH _ _ hTb), _, rfl, ?_⟩
      rw [he]
      cases e with
      | none =>
        refine iteF ?_
        exact ⟨_, rfl, k _ _ (M1.same.free hD) ⟨sH, M.at_⟩⟩
      | some z =>
        refine iteT ?_
        refine ⟨_, rfl, _, rfl, ⟨_, SqL.of M.at_⟩, fun D2 hD2 => ?_⟩
        refine lc_list (K := K) (a := D) (xs := nV (wantedL n tree b via)) (fun i H' => Made H2 D2 (nV (((wantedL n tree b via).take i).filter fun i => decide ((i : Int) = z))) H') (Made.start hD2) (fun i H' _ M3 => SqL.of (M3.same _ _ M.at_)) (fun i x H' hx M3 => ?_) (fun H3 M3 => ?_)
        · obtain ⟨j, hj, rfl⟩ := nV_at hx
          refine ⟨rfl, _, rfl, _, rfl, _, rfl, aTb, .int z, rfl, by
            have g := DGet.k (k := Sum.inl (dest : Int)) (M3.same _ _ (sH _ _ hTb))
            rw [he] at g
            exact g, rfl, _, rfl, ?_⟩
          have ed : decide (V.int (j : Int) = V.int z) = decide ((j : Int) = z) := by
            rw [Bool.eq_iff_iff, decide_eq_true_eq, decide_eq_true_eq]
            exact ⟨fun h => V.int.inj h, fun h => congrArg V.int h⟩
          refine ite2 (fun c => ?_) (fun c => ?_)
          · have c : decide (V.int (j : Int) = V.int z) = true := c
            rw [ed] at c
            exact ⟨_, rfl, M3.snoc hD2 (Nat.le_trans (take_filter_len i) (by omega)) (take_keep (p := fun (i : Nat) => decide ((i : Int) = z)) hj c)⟩
          · have c : ¬ decide (V.int (j : Int) = V.int z) = true := c
            rw [ed] at c
            exact M3.eq (take_skip (p := fun (i : Nat) => decide ((i : Int) = z)) hj c)
        · rw [List.take_of_length_le (by rw [nV_len]; exact Nat.le_refl _)] at M3
          exact k _ _ (sH.free hD2) ⟨sH.trans M3.same, M3.at_⟩
end
end TB
end
section
namespace TB
open PySem PySem.Spec PyProof.Rows L2
theorem RowsAt.one {H : Hp} {a p : Addr} {r : List Int} (hp : H p = some (.tup (zV r))) (ha : H a = some (.lst [.ref p])) : RowsAt H a [r] := by
  refine ⟨[p], ha, rfl, fun i b q h1 h2 => ?_⟩
  cases i with
  | zero =>
    cases h1
    cases h2
    exact hp
  | succ i => simp at h1
section
variable {P : Program} {w : World} {K : PySem.W.Frag} {mg : Str → Option Value} {base : Heap} {CN CL tM : Addr}
/-! ### visits_of -/
abbrev s_visits_of : Stmt := topS 21
theorem sc_visits_of : FnScope ["links", "tree", "tables", "start", "destination", "visits", "queue", "visit", "bridge", "index", "other", "via"] ["links", "tree", "tables", "start", "destination"] (defScope s_visits_of) := ⟨rfl, rfl, rfl, by decide +kernel, rfl, by decide +kernel, by decide +kernel⟩
def sp_visits_of (K : PySem.W.Frag) (CN CL : Addr) : Sp := fun vs H Q _ => ∃ (aL aTr aTs : Addr) (tas : List Addr) (d : Lan) (v dest : Nat), vs = [.ref aL, .ref aTr, .ref aTs, iV v, iV dest] ∧ WF d.network ∧ LnkRd CL H aL d.network ∧
  H aTr = some (.lst (nV (Su200.treeLinks d.network))) ∧ TabsAt H aTs tas d ∧ v < d.network.bridgeIds.length ∧
  ∀ (H' : Hp) (p : Addr), Same H H' → RowsAt H' p ((Su200.frameVisits d dest v).map (vrow d.network)) → Q (.ref p) H'
theorem ok_visits_of {f : Addr} {fd : FuncData} (F : Fun K "visits_of" "visits_of" s_visits_of f fd) (T : Txt K mg CN CL tM) {f_links_for : Addr} {fd_links_for : FuncData} (c_links_for : Cal P w K mg base "links_for" 3 ["links", "tree", "table", "visit", "destination"] (sp_links_for K CN CL) f_links_for fd_links_for) {f_far_end : Addr} {fd_far_end : FuncData} (c_far_end : Cal P w K mg base "far_end" 1 ["link", "bridge"] (sp_far_end K CN CL) f_far_end fd_far_end) : FnOk P w K mg base CX0 4 f fd ["links", "tree", "tables", "start", "destination"] (sp_visits_of K CN CL) := by
  refine F.ok sc_visits_of (fun vs H Q E h => ?_) (fun cdv A outer s H vs Q E hr h => ?_)
  · obtain ⟨aL, aTr, aTs, tas, d, v, dest, rfl, _⟩ := h
    rfl
  · obtain ⟨aL, aTr, aTs, tas, d, v, dest, rfl, W, R, hTr, TA, hv, k⟩ := h
    have hu := hu_of hr
    obtain ⟨m0, hm0, lp0, hR7, hRlt⟩ := visits_loop W (dest := dest) hv
    generalize hR : Su200.frameVisits d dest v = res at lp0 hR7 hRlt k
    refine ⟨_, (pss_cons (ps_set (i := 5) sc_visits_of.nd rfl (Or.inl rfl) (pe_lst pa_nil))
      (pss_cons (ps_set (i := 6) sc_visits_of.nd rfl (Or.inl rfl) (pe_lst (pa_cons (pe_tup (pa_cons (pv 3) (pa_cons (pe_cst rfl T.c_NONE) pa_nil))) pa_nil)))
      (pss_cons (ps_while PassesOwn.never (pt_cmpR (op_neD hr.units) (pv 6) (pe_lst pa_nil) (nomark _))
      (pss_cons (ps_set (i := 7) sc_visits_of.nd rfl (Or.inl rfl) (pe_bm PySem.F.plainAttrs_list PySem.F.slot_list_pop PySem.F.type_list_pop mt_popAt (pv 6) (pa_cons pe_int pa_nil)))
      (pss_cons (ps_set (i := 8) sc_visits_of.nd rfl (Or.inl rfl) (pe_ix ix_tup (pv 7) pe_int (fun _ _ => rfl)))
      (pss_one (ps_if (pt_cmpR op_notIn_seq (pv 8) (pe_lc (own := [("other", 10), ("via", 11)]) (g := gTup K 2 (gCons (gName 10) (gCons (gName 11) gNil))) rfl sc_visits_of.nd (pi_list (pv 5)) (blkOk_by (N := ["links", "tree", "tables", "start", "destination", "visits", "queue", "visit", "bridge", "index", "other", "via"]) (sc := defScope s_visits_of) (by decide +kernel)) (fun _ _ _ _ _ => (pg_tup rfl (pgs_cons (pg_name (i := 10) sc_visits_of.nd rfl (Or.inl rfl)) (pgs_cons (pg_name (i := 11) sc_visits_of.nd rfl (Or.inl rfl)) pgs_nil)))) (fun _ _ _ _ _ => pts_nil) (fun _ _ _ _ _ => (pv 10))) (by rfl))
      (pss_cons (ps_expr (pe_bm PySem.F.plainAttrs_list PySem.F.slot_list_append PySem.F.type_list_append mt_append (pv 5) (pa_cons (pv 7) pa_nil)))
      (pss_one (ps_for PassesOwn.never rfl (pi_list (pe_call c_links_for.ok (hr.mono (by decide)) (by rfl) c_links_for.mg c_links_for.kp c_links_for.b .nil pass0 (pa_cons (pv 0) (pa_cons (pv 1) (pa_cons (pe_ix ix_list (pv 2) (pv 8) (fun _ _ => rfl)) (pa_cons (pv 7) (pa_cons (pv 4) pa_nil))))))) (pg_name (i := 9) sc_visits_of.nd rfl (Or.inl rfl))
      (pss_one (ps_expr (pe_bm PySem.F.plainAttrs_list PySem.F.slot_list_append PySem.F.type_list_append mt_append (pv 6) (pa_cons (pe_tup (pa_cons (pe_call c_far_end.ok (hr.mono (by decide)) (by rfl) c_far_end.mg c_far_end.kp c_far_end.b .nil pass0 (pa_cons (pe_ix ix_list (pv 0) (pv 9) (fun _ _ => rfl)) (pa_cons (pv 8) pa_nil))) (pa_cons (pv 9) pa_nil))) pa_nil)))))))
      pss_nil)))))
      (pss_one (ps_ret (pv 5)))))), ?_⟩
    -- visits = []; queue = [(start, NONE)]
    refine ⟨Nat.zero_le _, fun aV hV => ?_⟩
    refine ⟨_, rfl, (by show 2 ≤ sizeLine; decide), fun t0 ht0 => ⟨(by show 1 ≤ sizeLine; decide), fun aQ hQ => ?_⟩⟩
    have s1 : Same H (upd H aV (.lst [])) := same_upd hV
    have s2 : Same (upd H aV (.lst [])) (upd (upd H aV (.lst [])) t0 (.tup [iV v, .int (-1)])) := same_upd ht0
    have s3 : Same (upd (upd H aV (.lst [])) t0 (.tup [iV v, .int (-1)])) (upd (upd (upd H aV (.lst [])) t0 (.tup [iV v, .int (-1)])) aQ (.lst [.ref t0])) := same_upd hQ
    have hQ0 : H aQ = none := s1.free (s2.free hQ)
    have hVQ : aV ≠ aQ := ne_of_none (s2 _ _ upd_same) hQ
    have ev : viaZ d.network d.network.links.length = -1 := by
      unfold viaZ
      rw [if_neg (Nat.lt_irrefl _)]
    refine ⟨fun m σ H' => ∃ vs q v7 v8 v9 v10 v11, σ = [some (.ref aL), some (.ref aTr), some (.ref aTs), some (iV v), some (iV dest), some (.ref aV), some (.ref aQ), v7, v8, v9, v10, v11] ∧ Same H H' ∧ RowsAt H' aV (vs.map (vrow d.network)) ∧ RowsAt H' aQ (q.map (vrow d.network)) ∧
        m ≤ 25 ∧ (∀ y ∈ q, y.1 < d.network.bridgeIds.length) ∧ Loop (visTurn (Su200.forwardingLinks d dest)) m (vs, q) (res, []),
      ⟨m0, [], [(v, d.network.links.length)], none, none, none, none, none, rfl, s1.trans (s2.trans s3), ⟨[], (s2.trans s3) _ _ upd_same, Each.nil _⟩, ?_, hm0, ?_, lp0⟩, fun m σ H' hW => ?_⟩
    · refine RowsAt.one (p := t0) ?_ upd_same
      rw [show vrow d.network (v, d.network.links.length) = [(v : Int), -1] from by unfold vrow; rw [ev]]
      exact s3 _ _ upd_same
    · intro y hy
      rw [List.mem_singleton] at hy
      subst hy
      exact hv
    · obtain ⟨vs, q, v7, v8, v9, v10, v11, rfl, sm, RV, RQ, hm, hq, lp⟩ := hW
      have lq := vloop_q _ lp
      have lv := vloop_vs _ lp
      -- queue != []
      refine ⟨_, rfl, Nat.zero_le _, fun e0 he0 => ?_⟩
      have s0 : Same H' (upd H' e0 (.lst [])) := same_upd he0
      refine ⟨rowsD (q.map (vrow d.network)), rowsD [], (RQ.same s0).dp, .lst (SqL.of upd_same) .nil, shaped_rows _, shaped_rows _, _, rfl, ?_⟩
      rw [eqv_rows]
      cases m with
      | zero =>
        obtain ⟨l1, l2⟩ := lp
        obtain ⟨rfl, rfl⟩ := Prod.mk.inj l2
        refine ite2 (fun c => ?_) (fun c => ?_)
        · exact absurd (show (!decide (([] : List (List Int)) = [])) = true from c) (by decide)
        · exact ⟨_, rfl, k _ _ (sm.trans s0) (RV.same s0)⟩
      | succ m =>
        obtain ⟨tq, l1, l2⟩ := lp
        cases q with
        | nil => cases l1
        | cons y q =>
          cases Option.some.inj l1
          refine ite2 (fun c => ?_) (fun c => absurd (show (!decide (((y :: q).map (vrow d.network)) = [])) = true from rfl) c)
          generalize hH0 : upd H' e0 (.lst []) = H0 at s0
          have RV0 := RV.same s0
          have RQ0 := RQ.same s0
          have sm0 := sm.trans s0
          have hy := hq y (by simp)
          refine ⟨fun σ' H2 => ∃ vs q v7 v8 v9 v10 v11, σ' = [some (.ref aL), some (.ref aTr), some (.ref aTs), some (iV v), some (iV dest), some (.ref aV), some (.ref aQ), v7, v8, v9, v10, v11] ∧ Same H H2 ∧ RowsAt H2 aV (vs.map (vrow d.network)) ∧ RowsAt H2 aQ (q.map (vrow d.network)) ∧
              m ≤ 25 ∧ (∀ y ∈ q, y.1 < d.network.bridgeIds.length) ∧ Loop (visTurn (Su200.forwardingLinks d dest)) m (vs, q) (res, []), fun σ' H2 hN => ⟨m, Nat.lt_succ_self m, hN⟩, ?_⟩
          -- visit = queue.pop(0)
          obtain ⟨qas, q1, q2⟩ := RQ0
          obtain ⟨ty, z1, z2, z3⟩ := q2.get (i := 0) (x := vrow d.network y) rfl
          refine ⟨_, rfl, .inl ⟨rfl, _, SqL.of q1⟩, aQ, _, 0, 0, .ref ty, rfl, rfl, q1, by decide, by decide, seqIndex_of (Int.le_refl 0) (by rw [List.length_map, q2.len]; simp), z2, ?_⟩
          have hQE : H0 aQ = some (.lst (qas.map V.ref)) := q1
          have RQ1 : RowsAt (upd H0 aQ (.lst ((qas.map V.ref).eraseIdx 0))) aQ (q.map (vrow d.network)) := by
            cases qas with
            | nil => cases z1
            | cons a0 qas =>
              refine ⟨qas, upd_same, ?_, fun i b r e1 e2 => ?_⟩
              · have := q2.len
                simpa using this
              · have := q2.at_ (i + 1) b r e1 e2
                rw [upd_ne (ne_of this q1 (by intro e; cases e))]
                exact this
          have RV1 : RowsAt (upd H0 aQ (.lst ((qas.map V.ref).eraseIdx 0))) aV (vs.map (vrow d.network)) := RV0.past q1 hVQ
          have hty : (upd H0 aQ (.lst ((qas.map V.ref).eraseIdx 0))) ty = some (.tup (zV (vrow d.network y))) := by
            rw [upd_ne (ne_of z3 q1 (by intro e; cases e))]
            exact z3
          have sm1 : Same H (upd H0 aQ (.lst ((qas.map V.ref).eraseIdx 0))) := same_grow sm0 hQ0
          generalize upd H0 aQ (.lst ((qas.map V.ref).eraseIdx 0)) = H1 at RQ1 RV1 hty sm1 ⊢
          -- bridge = visit[0]
          refine ⟨_, rfl, _, _, _, _, rfl, rfl, SqT.of hty, at_nat (j := 0) rfl, ?_⟩
          -- if bridge not in [other for other, via in visits]
          obtain ⟨vas, w1, w2⟩ := id RV1
          refine ⟨_, rfl, _, rfl, _, rfl, ⟨_, SqL.of w1⟩, fun D hD => ?_⟩
          refine lc_list (K := K) (a := aV) (xs := vas.map V.ref) (fun i H' => Made H1 D (nV ((vs.take i).map Prod.fst)) H') (Made.start hD) (fun i H' _ M => SqL.of (M.same _ _ w1)) (fun i x H' hx M => ?_) (fun H2 M => ?_)
          · have hi : i < vs.length := by
              have := (List.getElem?_eq_some_iff.mp hx).1
              rw [List.length_map, w2.len, List.length_map] at this
              exact this
            have hvi : vs[i]? = some vs[i] := List.getElem?_eq_getElem hi
            obtain ⟨va, u1, u2, u3⟩ := w2.get (i := i) (x := vrow d.network vs[i]) (by rw [List.getElem?_map, hvi]; rfl)
            have ex : x = .ref va := Option.some.inj (hx.symm.trans u2)
            subst ex
            refine ⟨va, _, rfl, SqT.of (M.same _ _ u3), rfl, _, _, rfl, _, _, rfl, rfl, rfl, yes_of ?_⟩
            refine ⟨_, rfl, M.snoc hD (by rw [nV_len, List.length_map, List.length_take]; omega) ?_⟩
            rw [take_more hvi, List.map_append]
            unfold nV
            rw [List.map_append]
            rfl
          · rw [List.take_of_length_le (by rw [List.length_map, w2.len, List.length_map]; exact Nat.le_refl _)] at M
            refine ⟨D, _, rfl, .inl (SqL.of M.at_), rfl, flat_nV _, _, rfl, ?_⟩
            have sm2 : Same H H2 := sm1.trans M.same
            have RQ2 := RQ1.same M.same
            have RV2 := RV1.same M.same
            have hty2 := M.same _ _ hty
            have ein : inV (iV y.1) (nV (vs.map Prod.fst)) = vs.any fun z => z.1 == y.1 := by
              rw [inV_nV, vs_contains]
            refine ite2 (fun c2 => ?_) (fun c2 => ?_)
            · have c2 : (!inV (iV y.1) (nV (vs.map Prod.fst))) = true := c2
              rw [ein] at c2
              have c3 : ¬ vs.any (fun z => z.1 == y.1) = true := by
                intro q
                rw [q] at c2
                cases c2
              rw [if_neg c3] at l2
              have lq2 := vloop_q _ l2
              -- visits.append(visit)
              obtain ⟨vas2, x1, x2, x3⟩ := RV2.snoc (Same.refl H2) hty2
              refine ⟨_, rfl, .inl ⟨rfl, _, SqL.of x1⟩, _, rfl, aV, _, _, rfl, rfl, x1, by rw [List.length_map, x2, List.length_map]; exact small_of (m := 7) (by omega), ?_⟩
              have RQ3 := RQ2.past (ys := vas2.map V.ref ++ [.ref ty]) x1 hVQ.symm
              have RV3 : RowsAt (upd H2 aV (.lst (vas2.map V.ref ++ [.ref ty]))) aV ((vs ++ [y]).map (vrow d.network)) := by
                rw [List.map_append]
                exact x3
              have hty3 : (upd H2 aV (.lst (vas2.map V.ref ++ [.ref ty]))) ty = some (.tup (zV (vrow d.network y))) := by
                rw [upd_ne (ne_of hty2 x1 (by intro e; cases e))]
                exact hty2
              have sm3 : Same H (upd H2 aV (.lst (vas2.map V.ref ++ [.ref ty]))) := same_grow sm2 hV
              generalize upd H2 aV (.lst (vas2.map V.ref ++ [.ref ty])) = H3 at RQ3 RV3 hty3 sm3 ⊢
              -- for index in links_for(..)
              obtain ⟨ta, kvs, t1, t2, t3, t4⟩ := (TA.same sm3).get hy
              refine ⟨_, rfl, _, rfl, _, rfl, _, rfl, _, _, _, _, rfl, rfl, SqL.of (TA.same sm3).lst, at_nat t2, _, rfl, _, rfl, ?_⟩
              refine ⟨aL, aTr, ta, ty, d.network, Su200.treeLinks d.network, kvs, y.1, dest, viaZ d.network y.2, (Su200.tableEntry d y.1 dest).map (viaZ d.network), rfl, R.same sm3, sm3 _ _ hTr, t3, hty3, by rw [t4.get, Option.map_map]; rfl, fun H4 p4 hp4 M4 => ?_⟩
              have npQ : p4 ≠ aQ := by
                obtain ⟨qa3, qq, _⟩ := id RQ3
                exact (ne_of_none qq hp4).symm
              have fe := forward_eq (d := d) W dest y.1 y.2
              generalize hl : lFor d.network (Su200.treeLinks d.network) ((Su200.tableEntry d y.1 dest).map (viaZ d.network)) y.1 (viaZ d.network y.2) = li at M4 fe
              have hli : ∀ i ∈ li, i < d.network.links.length := by
                intro i hi
                rw [← hl] at hi
                have hw : ∀ j ∈ wantedL d.network (Su200.treeLinks d.network) y.1 (viaZ d.network y.2), j < d.network.links.length := fun j hj => (mem_lAt.mp (List.mem_filter.mp hj).1).1
                unfold lFor at hi
                cases q : (Su200.tableEntry d y.1 dest).map (viaZ d.network) with
                | none =>
                  rw [q] at hi
                  exact hw i hi
                | some z =>
                  rw [q] at hi
                  exact hw i (List.mem_filter.mp hi).1
              have sm4 : Same H H4 := sm3.trans M4.same
              have swp : (Su200.forwardingLinks d dest y.1 y.2).map (fun z => (z.2, z.1)) = li.map fun i => (far (lnk d.network i) y.1, i) := by
                rw [fe, List.map_map]
                rfl
              rw [swp] at l2 lq2
              refine ⟨_, rfl, ⟨_, SqL.of M4.at_⟩, ?_⟩
              refine for_list (K := K) (a := p4) (xs := nV li) (fun i σ H5 => ∃ v9, σ = [some (.ref aL), some (.ref aTr), some (.ref aTs), some (iV v), some (iV dest), some (.ref aV), some (.ref aQ), some (.ref ty), some (iV y.1), v9, v10, v11] ∧ Same H H5 ∧ H5 p4 = some (.lst (nV li)) ∧
                  RowsAt H5 aV ((vs ++ [y]).map (vrow d.network)) ∧ RowsAt H5 aQ ((q ++ (li.take i).map fun i => (far (lnk d.network i) y.1, i)).map (vrow d.network)))
                ⟨v9, rfl, sm4, M4.at_, RV3.same M4.same, by rw [List.take_zero, List.map_nil, List.append_nil]; exact RQ3.same M4.same⟩ (fun i σ H5 _ hP => ?_) (fun i x σ H5 hx hP => ?_) (fun σ H5 hP => ?_)
              · obtain ⟨_, _, _, z, _⟩ := hP
                exact SqL.of z
              · obtain ⟨v9, rfl, sm5, h5, RV5, RQ5⟩ := hP
                obtain ⟨j, hj, rfl⟩ := nV_at hx
                have hjl := hli j (List.mem_of_getElem? hj)
                obtain ⟨las, la, g1, g2, g3, g4, g5⟩ := (R.same sm5).get hjl
                obtain ⟨qas5, r1, r2⟩ := id RQ5
                refine ⟨_, rfl, .inl ⟨rfl, _, SqL.of r1⟩, ?_⟩
                refine ⟨_, rfl, _, rfl, _, _, _, _, rfl, rfl, SqL.of g1, at_nat g4, _, rfl, la, _, y.1, rfl, g5, _, rfl, (by show 2 ≤ sizeLine; decide), fun tp htp => ?_⟩
                have s6 : Same H5 (upd H5 tp (.tup [iV (far (lnk d.network j) y.1), iV j])) := same_upd htp
                have ej : viaZ d.network j = (j : Int) := by
                  unfold viaZ
                  rw [if_pos hjl]
                have htp2 : (upd H5 tp (.tup [iV (far (lnk d.network j) y.1), iV j])) tp = some (.tup (zV (vrow d.network (far (lnk d.network j) y.1, j)))) := by
                  rw [upd_same]
                  unfold vrow zV
                  rw [ej]
                  rfl
                obtain ⟨qas6, b1, b2, b3⟩ := RQ5.snoc s6 htp2
                refine ⟨aQ, _, _, rfl, rfl, b1, ?_, some (iV j), rfl, same_grow (sm5.trans s6) hQ0, ?_, ?_, ?_⟩
                · rw [List.length_map, b2, List.length_map, List.length_append, List.length_map, List.length_take]
                  rw [List.length_append, List.length_map] at lq2
                  exact small_of (m := 25) (by omega)
                · rw [upd_ne npQ]
                  exact s6 _ _ h5
                · exact (RV5.same s6).past b1 hVQ
                · have e : q ++ (li.take (i + 1)).map (fun i => (far (lnk d.network i) y.1, i)) = (q ++ (li.take i).map fun i => (far (lnk d.network i) y.1, i)) ++ [(far (lnk d.network j) y.1, j)] := by
                    rw [take_more hj, List.map_append, ← List.append_assoc]
                    rfl
                  rw [e, List.map_append]
                  exact b3
              · obtain ⟨v9, rfl, sm5, h5, RV5, RQ5⟩ := hP
                rw [List.take_of_length_le (by rw [nV_len]; exact Nat.le_refl _)] at RQ5
                refine ⟨vs ++ [y], _, _, _, _, _, _, rfl, sm5, RV5, RQ5, by omega, fun x hx => ?_, l2⟩
                rw [List.mem_append] at hx
                rcases hx with hx | hx
                · exact hq x (List.mem_cons_of_mem _ hx)
                · obtain ⟨i, hi, rfl⟩ := List.mem_map.mp hx
                  exact far_lt W (hli i hi) y.1
            · have c2 : ¬ (!inV (iV y.1) (nV (vs.map Prod.fst))) = true := c2
              rw [ein] at c2
              have c3 : vs.any (fun z => z.1 == y.1) = true := by
                cases q : vs.any (fun z => z.1 == y.1) with
                | true => rfl
                | false =>
                  rw [q] at c2
                  exact absurd rfl c2
              rw [if_pos c3] at l2
              exact ⟨vs, q, _, _, _, _, _, rfl, sm2, RV2, RQ2, by omega, fun x hx => hq x (List.mem_cons_of_mem _ hx), l2⟩
/-! ### learn -/
abbrev s_learn : Stmt := topS 22
theorem sc_learn : FnScope ["tables", "visits", "source", "bridge", "via"] ["tables", "visits", "source"] (defScope s_learn) := ⟨rfl, rfl, rfl, by decide +kernel, rfl, by decide +kernel, by decide +kernel⟩
def sp_learn (K : PySem.W.Frag) (CN CL : Addr) : Sp := fun vs H Q _ => ∃ (aT aV : Addr) (tas : List Addr) (d : Lan) (src : Nat) (ys : List (Nat × Nat)), vs = [.ref aT, .ref aV, iV src] ∧ TabsAt H aT tas d ∧ LearnOk d.network.bridgeIds.length d.learned ∧ src ≤ 99 ∧
  RowsAt H aV (ys.map (vrow d.network)) ∧ (∀ y ∈ ys, y.1 < d.network.bridgeIds.length) ∧
  ∀ H' : Hp, TabsAt H' aT tas (Su200.learn d src ys) → LearnOk d.network.bridgeIds.length (Su200.learn d src ys).learned → (∀ b, b ∉ tas → H' b = H b) → Q .non H'
theorem ok_learn {f : Addr} {fd : FuncData} (F : Fun K "learn" "learn" s_learn f fd) (T : Txt K mg CN CL tM) : FnOk P w K mg base CX0 1 f fd ["tables", "visits", "source"] (sp_learn K CN CL) := by
  refine F.ok sc_learn (fun vs H Q E h => ?_) (fun cdv A outer s H vs Q E hr h => ?_)
  · obtain ⟨aT, aV, tas, d, src, ys, rfl, _⟩ := h
    rfl
  · obtain ⟨aT, aV, tas, d, src, ys, rfl, TA, LO, hsrc, RV, hy, k⟩ := h
    have hu := hu_of hr
    obtain ⟨vas, v1, v2⟩ := id RV
    refine ⟨_, (pss_one (ps_for PassesOwn.never rfl (pi_list (pv 1)) (pg_tup rfl (pgs_cons (pg_name (i := 3) sc_learn.nd rfl (Or.inl rfl)) (pgs_cons (pg_name (i := 4) sc_learn.nd rfl (Or.inl rfl)) pgs_nil)))
      (pss_one (ps_dput hu (pe_ix ix_list (pv 0) (pv 3) (fun _ _ => rfl)) (pv 2) (pv 4) rfl)))), ?_⟩
    have nt : ∀ {b : Addr} {o : HO}, H b = some o → (∀ kvs, o ≠ .dK kvs) → b ∉ tas := fun {b o} e hne hm => by
      obtain ⟨i, hi, e2⟩ := List.getElem_of_mem hm
      have h1 : tas[i]? = some b := by rw [List.getElem?_eq_getElem hi, e2]
      have hlen := TA.each.len
      rw [List.length_range] at hlen
      obtain ⟨kvs, k1, _⟩ := TA.each.at_ i b i h1 (List.getElem?_range (by omega))
      rw [e] at k1
      exact hne kvs (Option.some.inj k1)
    refine ⟨_, rfl, _, rfl, ⟨_, SqL.of v1⟩, ?_⟩
    refine for_list (K := K) (a := aV) (xs := vas.map V.ref) (fun i σ H' => ∃ v3 v4, σ = [some (.ref aT), some (.ref aV), some (iV src), v3, v4] ∧ TabsAt H' aT tas (Su200.learn d src (ys.take i)) ∧ LearnOk d.network.bridgeIds.length (Su200.learn d src (ys.take i)).learned ∧ ∀ b, b ∉ tas → H' b = H b)
      ⟨none, none, rfl, TA, LO, fun _ _ => rfl⟩ (fun i σ H' _ hP => ?_) (fun i x σ H' hx hP => ?_) (fun σ H' hP => ?_)
    · obtain ⟨_, _, _, _, _, z⟩ := hP
      refine SqL.of ?_
      rw [z aV (nt v1 (by intro _ q; cases q))]
      exact v1
    · obtain ⟨v3, v4, rfl, TA1, LO1, hk⟩ := hP
      have hi : i < ys.length := by
        have := (List.getElem?_eq_some_iff.mp hx).1
        rw [List.length_map, v2.len, List.length_map] at this
        exact this
      have hyi : ys[i]? = some ys[i] := List.getElem?_eq_getElem hi
      obtain ⟨va, u1, u2, u3⟩ := v2.get (i := i) (x := vrow d.network ys[i]) (by rw [List.getElem?_map, hyi]; rfl)
      have ex : x = .ref va := Option.some.inj (hx.symm.trans u2)
      subst ex
      have hb := hy _ (List.getElem_mem hi)
      have hva : H' va = some (.tup (zV (vrow d.network ys[i]))) := by
        rw [hk va (nt u3 (by intro _ q; cases q))]
        exact u3
      obtain ⟨ta, kvs, t1, t2, t3, t4⟩ := TA1.get hb
      have hkl : kvs.length ≤ 100 := by
        rw [t4.len]
        exact cnt_le LO1 _
      refine ⟨va, _, rfl, SqT.of hva, rfl, _, _, rfl, _, _, rfl, rfl, ?_⟩
      refine ⟨_, rfl, _, rfl, _, rfl, _, _, _, _, rfl, rfl, SqL.of TA1.lst, at_nat t2, _, rfl, ta, _, rfl, DPut.k (k := Sum.inl (src : Int)) t3 (small_of (m := 100) hkl), ?_⟩
      have L := TA1.learn (src := src) (y := ys[i]) LO1 t1 t3 t4
      have e : Su200.learn d src (ys.take (i + 1)) = { Su200.learn d src (ys.take i) with learned := learn1 src (Su200.learn d src (ys.take i)).learned ys[i] } := by
        rw [take_more hyi, learn_eq, learn_eq, List.foldl_append]
        rfl
      rw [e]
      refine ⟨_, _, rfl, L, learn1_ok LO1 hb hsrc, fun b hbt => ?_⟩
      rw [upd_ne (fun q => hbt (by rw [q]; exact List.mem_of_getElem? t1))]
      exact hk b hbt
    · obtain ⟨v3, v4, rfl, TA1, LO1, hk⟩ := hP
      rw [List.take_of_length_le (by rw [List.length_map, v2.len, List.length_map]; exact Nat.le_refl _)] at TA1 LO1
      exact k _ TA1 LO1 hk
end
end TB
end
section
namespace TB
open PySem PySem.Spec PyProof.Rows L2
/-! ### the network in the heap -/
structure Ad where
  nw : Addr
  aI : Addr
  aL : Addr
  aH : Addr
  aT : Addr
  las : List Addr
  tas : List Addr
def nF (ad : Ad) : List (Str × V) := [("ids", .ref ad.aI), ("links", .ref ad.aL), ("hosts", .ref ad.aH), ("tables", .ref ad.aT)]
theorem nF_ids (ad : Ad) : (nF ad).lookup ("ids" : Str) = some (.ref ad.aI) := lk_here
theorem nF_links (ad : Ad) : (nF ad).lookup ("links" : Str) = some (.ref ad.aL) := (lk_past (by decide +kernel)).trans lk_here
theorem nF_hosts (ad : Ad) : (nF ad).lookup ("hosts" : Str) = some (.ref ad.aH) := (lk_past (by decide +kernel)).trans ((lk_past (by decide +kernel)).trans lk_here)
theorem nF_tables (ad : Ad) : (nF ad).lookup ("tables" : Str) = some (.ref ad.aT) := (lk_past (by decide +kernel)).trans ((lk_past (by decide +kernel)).trans ((lk_past (by decide +kernel)).trans lk_here))
theorem nF_forget (ad : Ad) : (nF ad).lookup ("forget" : Str) = none := (lk_past (by decide +kernel)).trans ((lk_past (by decide +kernel)).trans ((lk_past (by decide +kernel)).trans ((lk_past (by decide +kernel)).trans rfl)))
theorem nF_has_bridge (ad : Ad) : (nF ad).lookup ("has_bridge" : Str) = none := (lk_past (by decide +kernel)).trans ((lk_past (by decide +kernel)).trans ((lk_past (by decide +kernel)).trans ((lk_past (by decide +kernel)).trans rfl)))
theorem nF_has_link (ad : Ad) : (nF ad).lookup ("has_link" : Str) = none := (lk_past (by decide +kernel)).trans ((lk_past (by decide +kernel)).trans ((lk_past (by decide +kernel)).trans ((lk_past (by decide +kernel)).trans rfl)))
theorem nF_put (ad : Ad) (aT : Addr) (tas : List Addr) : putF "tables" (.ref aT) (nF ad) = nF { ad with aT := aT, tas := tas } :=
  (put_past (by decide +kernel)).trans (congrArg _ ((put_past (by decide +kernel)).trans (congrArg _ ((put_past (by decide +kernel)).trans (congrArg _ put_here)))))
theorem nF_new (a b c d : V) : putF "tables" d (putF "hosts" c (putF "links" b (putF "ids" a []))) = ([("ids", a), ("links", b), ("hosts", c), ("tables", d)] : List (Str × V)) := by
  rw [show putF "ids" a [] = [(("ids" : Str), a)] from rfl]
  rw [show putF "links" b [(("ids" : Str), a)] = [(("ids" : Str), a), ("links", b)] from (put_past (by decide +kernel)).trans rfl]
  rw [show putF "hosts" c [(("ids" : Str), a), ("links", b)] = [(("ids" : Str), a), ("links", b), ("hosts", c)] from (put_past (by decide +kernel)).trans (congrArg _ ((put_past (by decide +kernel)).trans rfl))]
  exact (put_past (by decide +kernel)).trans (congrArg _ ((put_past (by decide +kernel)).trans (congrArg _ ((put_past (by decide +kernel)).trans rfl))))
structure HostOk (hs : List (Nat × Nat)) (kvs : List (Key × V)) : Prop where
  get : ∀ h : Nat, valV kvs (Sum.inl (h : Int)) = (hostOf hs h).map iV
  len : kvs.length = hs.length
/-- all but the tables -/
structure NetC (CN CL : Addr) (H : Hp) (ad : Ad) (d : Lan) : Prop where
  nw : ∃ dx, H ad.nw = some (.ins CN dx (nF ad))
  ids : H ad.aI = some (.lst (nV d.network.bridgeIds))
  lks : LksAt CL H ad.aL ad.las d.network.links
  lnd : ad.las.Nodup
  hosts : ∃ kvs, H ad.aH = some (.dK kvs) ∧ HostOk d.hosts kvs
  dIL : ad.aI ≠ ad.aL
  dN : ad.nw ∉ ad.las
structure NetAt (CN CL : Addr) (H : Hp) (ad : Ad) (d : Lan) : Prop where
  c : NetC CN CL H ad d
  tabs : TabsAt H ad.aT ad.tas d
  dIT : ad.aI ≠ ad.aT
  dLT : ad.aL ≠ ad.aT
  dH : ad.aH ∉ ad.tas
theorem NetC.same {CN CL : Addr} {H H' : Hp} {ad : Ad} {d : Lan} (s : Same H H') (N : NetC CN CL H ad d) : NetC CN CL H' ad d := by
  obtain ⟨dx, h1⟩ := N.nw
  obtain ⟨kvs, h2, h3⟩ := N.hosts
  exact ⟨⟨dx, s _ _ h1⟩, s _ _ N.ids, N.lks.same s, N.lnd, ⟨kvs, s _ _ h2, h3⟩, N.dIL, N.dN⟩
theorem NetAt.same {CN CL : Addr} {H H' : Hp} {ad : Ad} {d : Lan} (s : Same H H') (N : NetAt CN CL H ad d) : NetAt CN CL H' ad d :=
  ⟨N.c.same s, N.tabs.same s, N.dIT, N.dLT, N.dH⟩
def Ad.own (ad : Ad) (b : Addr) : Prop := b = ad.nw ∨ b = ad.aI ∨ b = ad.aL ∨ b = ad.aH ∨ b = ad.aT ∨ b ∈ ad.las ∨ b ∈ ad.tas
theorem each_some {α : Type} {R : Addr → α → Prop} {H : Hp} {as : List Addr} {xs : List α} (e : Each R as xs) (h : ∀ a x, R a x → ∃ o, H a = some o) {b : Addr} (hb : b ∈ as) : ∃ o, H b = some o := by
  obtain ⟨i, hi, rfl⟩ := List.getElem_of_mem hb
  have hx : i < xs.length := by
    rw [← e.len]
    exact hi
  exact h _ _ (e.at_ i _ _ (List.getElem?_eq_getElem hi) (List.getElem?_eq_getElem hx))
theorem NetAt.own_some {CN CL : Addr} {H : Hp} {ad : Ad} {d : Lan} (N : NetAt CN CL H ad d) {b : Addr} (hb : ad.own b) : ∃ o, H b = some o := by
  rcases hb with rfl | rfl | rfl | rfl | rfl | hb | hb
  · obtain ⟨dx, h⟩ := N.c.nw
    exact ⟨_, h⟩
  · exact ⟨_, N.c.ids⟩
  · exact ⟨_, N.c.lks.lst⟩
  · obtain ⟨_, h, _⟩ := N.c.hosts
    exact ⟨_, h⟩
  · exact ⟨_, N.tabs.lst⟩
  · exact each_some N.c.lks.each (fun a x h => by obtain ⟨dx, h⟩ := h; exact ⟨_, h⟩) hb
  · exact each_some N.tabs.each (fun a x h => by obtain ⟨kvs, h, _⟩ := h; exact ⟨_, h⟩) hb
theorem NetAt.not_own {CN CL : Addr} {H : Hp} {ad : Ad} {d : Lan} (N : NetAt CN CL H ad d) {b : Addr} (hb : H b = none) : ¬ ad.own b := fun q => by
  obtain ⟨o, e⟩ := N.own_some q
  rw [hb] at e
  cases e
/-- what stood apart from the network stands; the network's new parts are new -/
structure Fr (H H' : Hp) (ad ad' : Ad) : Prop where
  keep : ∀ b o, H b = some o → ¬ ad.own b → H' b = some o
  new : ∀ b, ad'.own b → ad.own b ∨ H b = none
theorem Fr.of_same {H H' : Hp} {ad : Ad} (s : Same H H') : Fr H H' ad ad := ⟨fun b o e _ => s b o e, fun b h => .inl h⟩
theorem NetAt.rd {CN CL : Addr} {H : Hp} {ad : Ad} {d : Lan} (N : NetC CN CL H ad d) (o : WF d.network) : NetRd CL H ad.aI ad.aL d.network := ⟨o, N.ids, _, N.lks⟩
/-! ### what an operation promises -/
abbrev Op := Su200.Operation
def resV (r : Su200.Result) : List V := .int r.value :: nV r.fields
def spOp (CN CL : Addr) (ar : Nat) (op : List Nat → Op) : Sp := fun vs H Q _ => ∃ (ad : Ad) (d : Lan) (xs : List Nat), vs = .ref ad.nw :: nV xs ∧ xs.length = ar ∧ NetAt CN CL H ad d ∧ LanOk d ∧
  ∀ (H' : Hp) (ad' : Ad) (p : Addr), NetAt CN CL H' ad' (Su200.execute d (op xs)).1 → ad'.nw = ad.nw → Fr H H' ad ad' → H p = none → ¬ ad'.own p → H' p = some (.lst (resV (Su200.execute d (op xs)).2)) → Q (.ref p) H'
theorem spOp.len {CN CL : Addr} {ar : Nat} {op : List Nat → Op} {vs : List V} {H : Hp} {Q : VK} {E : XK} (h : spOp CN CL ar op vs H Q E) : vs.length = ar + 1 := by
  obtain ⟨ad, d, xs, rfl, h, _⟩ := h
  rw [List.length_cons, nV_len, h]
abbrev Post (CN CL : Addr) (H : Hp) (ad : Ad) (d : Lan) (op : Op) (Q : VK) : Prop :=
  ∀ (H' : Hp) (ad' : Ad) (p : Addr), NetAt CN CL H' ad' (Su200.execute d op).1 → ad'.nw = ad.nw → Fr H H' ad ad' → H p = none → ¬ ad'.own p → H' p = some (.lst (resV (Su200.execute d op).2)) → Q (.ref p) H'
/-- an operation that only tells, or refuses -/
theorem fin_same {CN CL : Addr} {H H' : Hp} {ad : Ad} {d : Lan} {op : Op} {Q : VK} {p : Addr} {r : Su200.Result} {xs : List V} (k : Post CN CL H ad d op Q) (N : NetAt CN CL H ad d) (e : Su200.execute d op = (d, r)) (s : Same H H') (hp : H p = none) (h : H' p = some (.lst xs)) (ex : xs = resV r) : Q (.ref p) H' := by
  subst ex
  have z := k H' ad p
  rw [e] at z
  exact z (N.same s) rfl (Fr.of_same s) hp (N.not_own hp) h
/-- one that changes the state -/
theorem fin_new {CN CL : Addr} {H H' : Hp} {ad ad' : Ad} {d d' : Lan} {op : Op} {Q : VK} {p : Addr} {r : Su200.Result} {xs : List V} (k : Post CN CL H ad d op Q) (e : Su200.execute d op = (d', r)) (N : NetAt CN CL H' ad' d') (en : ad'.nw = ad.nw) (f : Fr H H' ad ad') (hp : H' p = none) (hp0 : H p = none)
    (ex : xs = resV r) : Q (.ref p) (upd H' p (.lst xs)) := by
  subst ex
  have z := k (upd H' p (.lst (resV r))) ad' p
  rw [e] at z
  have s : Same H' (upd H' p (.lst (resV r))) := same_upd hp
  exact z (N.same s) en ⟨fun b o h hb => s _ _ (f.keep b o h hb), f.new⟩ hp0 (N.not_own hp) upd_same
section
variable {P : Program} {w : World} {K : PySem.W.Frag} {mg : Str → Option Value} {base : Heap} {CN CL tM : Addr}
/-! ### the class Network -/
abbrev s_Network_init : Stmt := inClass (topS 37) 0
theorem sc_Network_init : FnScope ["self"] ["self"] (defScope s_Network_init) := ⟨rfl, rfl, rfl, by decide +kernel, rfl, by decide +kernel, by decide +kernel⟩
def sp_Network_init (K : PySem.W.Frag) (CN CL : Addr) : Sp := fun vs H Q _ => ∃ (p dx : Addr), vs = [.ref p] ∧ H p = some (.ins CN dx []) ∧
  ∀ (H' : Hp) (ad : Ad), ad.nw = p → NetAt CN CL H' ad Su200.empty → (∀ b o, H b = some o → b ≠ p → H' b = some o) → (∀ b, ad.own b → b = p ∨ H b = none) → Q .non H'
theorem ok_Network_init {f : Addr} {fd : FuncData} (F : Fun K "__init__" "Network.__init__" s_Network_init f fd) (T : Txt K mg CN CL tM) : FnOk P w K mg base CX0 1 f fd ["self"] (sp_Network_init K CN CL) := by
  refine F.ok sc_Network_init (fun vs H Q E h => ?_) (fun cdv A outer s H vs Q E hr h => ?_)
  · obtain ⟨p, dx, rfl, _⟩ := h
    rfl
  · obtain ⟨p, dx, rfl, hp, k⟩ := h
    have hu := hu_of hr
    refine ⟨_, (pss_cons (ps_fld (pv 0) (pe_lst pa_nil) rfl)
      (pss_cons (ps_fld (pv 0) (pe_lst pa_nil) rfl)
      (pss_cons (ps_fld (pv 0) pe_dnewK rfl)
      (pss_one (ps_fld (pv 0) (pe_lst pa_nil) rfl))))), ?_⟩
    refine ⟨Nat.zero_le _, fun aI hI => ?_⟩
    have npI : p ≠ aI := ne_of_none hp hI
    refine ⟨_, rfl, p, CN, dx, [], rfl, (by rw [upd_ne npI]; exact hp), T.clN, T.nIds, (by show 0 < 1000; decide), ?_⟩
    refine ⟨Nat.zero_le _, fun aL hL => ?_⟩
    have npL : p ≠ aL := ne_of_none upd_same hL
    have nIL : aI ≠ aL := fun e => by
      subst e
      rw [upd_ne npI.symm, upd_same] at hL
      cases hL
    refine ⟨_, rfl, p, CN, dx, _, rfl, (by rw [upd_ne npL]; exact upd_same), T.clN, T.nLinks, (by show 1 < 1000; decide), ?_⟩
    intro aH hH
    have npH : p ≠ aH := ne_of_none upd_same hH
    have nIH : aI ≠ aH := fun e => by
      subst e
      rw [upd_ne npI.symm, upd_ne nIL, upd_ne npI.symm, upd_same] at hH
      cases hH
    have nLH : aL ≠ aH := fun e => by
      subst e
      rw [upd_ne npL.symm, upd_same] at hH
      cases hH
    refine ⟨_, rfl, p, CN, dx, _, rfl, (by rw [upd_ne npH]; exact upd_same), T.clN, T.nHosts, (by show 2 < 1000; decide), ?_⟩
    refine ⟨Nat.zero_le _, fun aT hT => ?_⟩
    have npT : p ≠ aT := ne_of_none upd_same hT
    have nIT : aI ≠ aT := fun e => by
      subst e
      rw [upd_ne npI.symm, upd_ne nIH, upd_ne npI.symm, upd_ne nIL, upd_ne npI.symm, upd_same] at hT
      cases hT
    have nLT : aL ≠ aT := fun e => by
      subst e
      rw [upd_ne npL.symm, upd_ne nLH, upd_ne npL.symm, upd_same] at hT
      cases hT
    have nHT : aH ≠ aT := fun e => by
      subst e
      rw [upd_ne npH.symm, upd_same] at hT
      cases hT
    refine ⟨_, rfl, p, CN, dx, _, rfl, (by rw [upd_ne npT]; exact upd_same), T.clN, T.nTables, (by show 3 < 1000; decide), ?_⟩
    have hT0 : H aT = none := by
      rw [upd_ne npT.symm, upd_ne nHT.symm, upd_ne npT.symm, upd_ne nLT.symm, upd_ne npT.symm, upd_ne nIT.symm] at hT
      exact hT
    have hH0 : H aH = none := by
      rw [upd_ne npH.symm, upd_ne nLH.symm, upd_ne npH.symm, upd_ne nIH.symm] at hH
      exact hH
    have hL0 : H aL = none := by
      rw [upd_ne npL.symm, upd_ne nIL.symm] at hL
      exact hL
    refine k _ ⟨p, aI, aL, aH, aT, [], []⟩ rfl ⟨⟨⟨dx, ?_⟩, ?_, ⟨?_, Each.nil _⟩, List.nodup_nil, ⟨[], ?_, fun h => rfl, rfl⟩, nIL, by simp⟩, ⟨?_, List.nodup_nil, Each.nil _⟩, nIT, nLT, by simp⟩ (fun b o e hb => ?_) (fun b hb => ?_)
    · rw [upd_same]
      exact congrArg (fun q => some (HO.ins CN dx q)) (nF_new _ _ _ _)
    · rw [upd_ne npI.symm, upd_ne nIT, upd_ne npI.symm, upd_ne nIH, upd_ne npI.symm, upd_ne nIL, upd_ne npI.symm, upd_same]
      rfl
    · rw [upd_ne npL.symm, upd_ne nLT, upd_ne npL.symm, upd_ne nLH, upd_ne npL.symm, upd_same]
      rfl
    · rw [upd_ne npH.symm, upd_ne nHT, upd_ne npH.symm, upd_same]
    · rw [upd_ne npT.symm, upd_same]
      rfl
    · rw [upd_ne hb, upd_ne (ne_of_none e hT0), upd_ne hb, upd_ne (ne_of_none e hH0), upd_ne hb, upd_ne (ne_of_none e hL0), upd_ne hb, upd_ne (ne_of_none e hI)]
      exact e
    · rcases hb with rfl | rfl | rfl | rfl | rfl | hb | hb
      · exact .inl rfl
      · exact .inr hI
      · exact .inr hL0
      · exact .inr hH0
      · exact .inr hT0
      · exact absurd hb (by simp)
      · exact absurd hb (by simp)
abbrev s_Network_forget : Stmt := inClass (topS 37) 1
theorem sc_Network_forget : FnScope ["self", "bridge_id"] ["self"] (defScope s_Network_forget) := ⟨rfl, rfl, rfl, by decide +kernel, rfl, by decide +kernel, by decide +kernel⟩
def sp_Network_forget (K : PySem.W.Frag) (CN CL : Addr) : Sp := fun vs H Q _ => ∃ (ad : Ad) (d : Lan), vs = [.ref ad.nw] ∧ NetC CN CL H ad d ∧ WF d.network ∧
  ∀ (H' : Hp) (aT : Addr) (tas : List Addr), NetAt CN CL H' { ad with aT := aT, tas := tas } { d with learned := [] } → (∀ b o, H b = some o → b ≠ ad.nw → H' b = some o) → H aT = none → (∀ t ∈ tas, H t = none) → Q .non H'
theorem ok_Network_forget {f : Addr} {fd : FuncData} (F : Fun K "forget" "Network.forget" s_Network_forget f fd) (T : Txt K mg CN CL tM) : FnOk P w K mg base CX0 1 f fd ["self"] (sp_Network_forget K CN CL) := by
  refine F.ok sc_Network_forget (fun vs H Q E h => ?_) (fun cdv A outer s H vs Q E hr h => ?_)
  · obtain ⟨ad, d, rfl, _⟩ := h
    rfl
  · obtain ⟨ad, d, rfl, N, W, k⟩ := h
    have hu := hu_of hr
    obtain ⟨dx, hnw⟩ := id N.nw
    have hle := W.idsLe
    refine ⟨_, (pss_one (ps_fld (pv 0) (pe_lc (own := [("bridge_id", 1)]) (g := gName 1) rfl sc_Network_forget.nd (pi_list (pe_fld (pv 0) rfl)) (blkOk_by (N := ["self", "bridge_id"]) (sc := defScope s_Network_forget) (by decide +kernel)) (fun _ _ _ _ _ => (pg_name (i := 1) sc_Network_forget.nd rfl (Or.inl rfl))) (fun _ _ _ _ _ => pts_nil) (fun _ _ _ _ _ => pe_dnewK)) rfl)), ?_⟩
    refine ⟨_, rfl, _, _, _, _, _, rfl, hnw, T.clN, T.nIds, nF_ids ad, ad.aI, rfl, ⟨_, SqL.of N.ids⟩, fun D hD => ?_⟩
    refine lc_list (K := K) (a := ad.aI) (xs := nV d.network.bridgeIds) (fun i H' => Same H H' ∧ ∃ tas : List Addr, H' D = some (.lst (tas.map V.ref)) ∧ tas.length = i ∧ tas.Nodup ∧ ∀ t ∈ tas, H t = none ∧ H' t = some (.dK []))
      ⟨same_upd hD, [], upd_same, rfl, List.nodup_nil, fun t ht => by cases ht⟩ (fun i H' _ P => SqL.of (P.1 _ _ N.ids)) (fun i x H' hx P => ?_) (fun H2 P => ?_)
    · obtain ⟨sm, tas, h1, h2, h3, h4⟩ := P
      have hi : i < d.network.bridgeIds.length := by
        have := (List.getElem?_eq_some_iff.mp hx).1
        rwa [nV_len] at this
      refine ⟨rfl, yes_of ?_⟩
      intro p hp
      have s1 : Same H' (upd H' p (.dK [])) := same_upd hp
      have nDp : D ≠ p := ne_of_none h1 hp
      refine ⟨_, s1 _ _ h1, by rw [List.length_map, h2]; exact small_of (m := 7) (by omega), same_grow (sm.trans s1) hD, tas ++ [p], ?_, by rw [List.length_append, h2]; rfl, ?_, fun t ht => ?_⟩
      · rw [upd_same, List.map_append]
        rfl
      · rw [List.nodup_append]
        refine ⟨h3, by simp, fun a ha b hb e => ?_⟩
        rw [List.mem_singleton] at hb
        subst hb e
        have := (h4 a ha).2
        rw [hp] at this
        cases this
      · rw [List.mem_append, List.mem_singleton] at ht
        rcases ht with ht | rfl
        · obtain ⟨a, b⟩ := h4 t ht
          refine ⟨a, ?_⟩
          rw [upd_ne (ne_of (s1 _ _ b) (s1 _ _ h1) (by intro e; cases e))]
          exact s1 _ _ b
        · refine ⟨sm.free hp, ?_⟩
          rw [upd_ne nDp.symm]
          exact upd_same
    · obtain ⟨sm, tas, h1, h2, h3, h4⟩ := P
      rw [nV_len] at h2
      have N2 := N.same sm
      obtain ⟨dx2, hnw2⟩ := id N2.nw
      have nD : D ≠ ad.nw := fun e => by
        rw [e, hnw] at hD
        cases hD
      refine ⟨_, rfl, ad.nw, CN, dx2, _, rfl, hnw2, T.clN, T.nTables, (by show 4 < 1000; decide), ?_⟩
      have ne : ∀ {b : Addr} {o : HO}, H2 b = some o → (∀ dx fs, o ≠ .ins CN dx fs) → b ≠ ad.nw := fun {b o} e q z => by
        rw [z, hnw2] at e
        exact q _ _ (Option.some.inj e).symm
      have kp : ∀ {b : Addr} {o : HO}, H2 b = some o → b ≠ ad.nw → (upd H2 ad.nw (.ins CN dx2 (putF "tables" (.ref D) (nF ad)))) b = some o := fun {b o} e q => by
        rw [upd_ne q]
        exact e
      obtain ⟨kvs, hh1, hh2⟩ := N2.hosts
      refine k _ D tas ⟨⟨⟨dx2, ?_⟩, kp N2.ids (ne N2.ids (by intro _ _ q; cases q)), ⟨kp N2.lks.lst (ne N2.lks.lst (by intro _ _ q; cases q)), N2.lks.each.mono fun a x ha r => r.imp fun d' q => kp q fun z => N.dN (z ▸ ha)⟩, N.lnd, ⟨kvs, kp hh1 (ne hh1 (by intro _ _ q; cases q)), hh2⟩, N.dIL, N.dN⟩,
        ⟨kp h1 nD, h3, ?_, fun i a v e1 e2 => ?_⟩, ?_, ?_, ?_⟩ (fun b o e hb => kp (sm _ _ e) hb) hD (fun t ht => (h4 t ht).1)
      · rw [upd_same]
        exact congrArg (fun q => some (HO.ins CN dx2 q)) (nF_put ad D tas)
      · rw [List.length_range]
        exact h2
      · have := h4 a (List.mem_of_getElem? e1)
        exact ⟨[], kp this.2 (ne this.2 (by intro _ _ q; cases q)), fun h => rfl, rfl⟩
      · show ad.aI ≠ D
        exact ne_of_none N.ids hD
      · show ad.aL ≠ D
        exact ne_of_none N.lks.lst hD
      · show ad.aH ∉ tas
        intro q
        obtain ⟨_, z, _⟩ := N.hosts
        rw [(h4 _ q).1] at z
        cases z
abbrev s_Network_has_bridge : Stmt := inClass (topS 37) 2
theorem sc_Network_has_bridge : FnScope ["self", "bridge"] ["self", "bridge"] (defScope s_Network_has_bridge) := ⟨rfl, rfl, rfl, by decide +kernel, rfl, by decide +kernel, by decide +kernel⟩
def sp_Network_has_bridge (K : PySem.W.Frag) (CN CL : Addr) : Sp := fun vs H Q _ => ∃ (ad : Ad) (d : Lan) (b : Nat), vs = [.ref ad.nw, iV b] ∧ NetC CN CL H ad d ∧ Q (.bl (Su200.hasBridge d b)) H
theorem ok_Network_has_bridge {f : Addr} {fd : FuncData} (F : Fun K "has_bridge" "Network.has_bridge" s_Network_has_bridge f fd) (T : Txt K mg CN CL tM) : FnOk P w K mg base CX0 1 f fd ["self", "bridge"] (sp_Network_has_bridge K CN CL) := by
  refine F.ok sc_Network_has_bridge (fun vs H Q E h => ?_) (fun cdv A outer s H vs Q E hr h => ?_)
  · obtain ⟨ad, d, b, rfl, _⟩ := h
    rfl
  · obtain ⟨ad, d, b, rfl, N, k⟩ := h
    have hu := hu_of hr
    obtain ⟨dx, hnw⟩ := id N.nw
    refine ⟨_, (pss_one (ps_ret (pe_cmpR op_lt (pv 1) (pe_callB call_len_seq (by rfl) T.nLen PySem.boot_len (pa_cons (pe_fld (pv 0) rfl) pa_nil)) (nomark _)))), ?_⟩
    refine ⟨_, rfl, _, rfl, _, _, _, _, _, rfl, hnw, T.clN, T.nIds, nF_ids ad, _, _, rfl, .inl (SqL.of N.ids), _, _, rfl, rfl, ?_⟩
    rw [nV_len]
    have e : decide ((b : Int) < (d.network.bridgeIds.length : Int)) = Su200.hasBridge d b := by
      unfold Su200.hasBridge Su200.bridgeCount
      rw [Bool.eq_iff_iff, decide_eq_true_eq, decide_eq_true_eq]
      omega
    rw [← e] at k
    exact k
abbrev s_Network_has_link : Stmt := inClass (topS 37) 3
theorem sc_Network_has_link : FnScope ["self", "link"] ["self", "link"] (defScope s_Network_has_link) := ⟨rfl, rfl, rfl, by decide +kernel, rfl, by decide +kernel, by decide +kernel⟩
def sp_Network_has_link (K : PySem.W.Frag) (CN CL : Addr) : Sp := fun vs H Q _ => ∃ (ad : Ad) (d : Lan) (b : Nat), vs = [.ref ad.nw, iV b] ∧ NetC CN CL H ad d ∧ Q (.bl (Su200.hasLink d b)) H
theorem ok_Network_has_link {f : Addr} {fd : FuncData} (F : Fun K "has_link" "Network.has_link" s_Network_has_link f fd) (T : Txt K mg CN CL tM) : FnOk P w K mg base CX0 1 f fd ["self", "link"] (sp_Network_has_link K CN CL) := by
  refine F.ok sc_Network_has_link (fun vs H Q E h => ?_) (fun cdv A outer s H vs Q E hr h => ?_)
  · obtain ⟨ad, d, b, rfl, _⟩ := h
    rfl
  · obtain ⟨ad, d, b, rfl, N, k⟩ := h
    have hu := hu_of hr
    obtain ⟨dx, hnw⟩ := id N.nw
    refine ⟨_, (pss_one (ps_ret (pe_cmpR op_lt (pv 1) (pe_callB call_len_seq (by rfl) T.nLen PySem.boot_len (pa_cons (pe_fld (pv 0) rfl) pa_nil)) (nomark _)))), ?_⟩
    have hl : (ad.las.map V.ref).length = d.network.links.length := by
      rw [List.length_map]
      exact N.lks.each.len
    refine ⟨_, rfl, _, rfl, _, _, _, _, _, rfl, hnw, T.clN, T.nLinks, nF_links ad, _, _, rfl, .inl (SqL.of N.lks.lst), _, _, rfl, rfl, ?_⟩
    rw [hl]
    have e : decide ((b : Int) < (d.network.links.length : Int)) = Su200.hasLink d b := by
      unfold Su200.hasLink
      rw [Bool.eq_iff_iff, decide_eq_true_eq, decide_eq_true_eq]
      omega
    rw [← e] at k
    exact k
/-! ### is_cost -/
abbrev s_is_cost : Stmt := topS 47
theorem sc_is_cost : FnScope ["cost"] ["cost"] (defScope s_is_cost) := ⟨rfl, rfl, rfl, by decide +kernel, rfl, by decide +kernel, by decide +kernel⟩
def sp_is_cost (K : PySem.W.Frag) (CN CL : Addr) : Sp := fun vs H Q _ => ∃ (c : Nat), vs = [iV c] ∧ Q (.bl (!decide (c = 0 ∨ 99 < c))) H
theorem ok_is_cost {f : Addr} {fd : FuncData} (F : Fun K "is_cost" "is_cost" s_is_cost f fd) (T : Txt K mg CN CL tM) : FnOk P w K mg base CX0 1 f fd ["cost"] (sp_is_cost K CN CL) := by
  refine F.ok sc_is_cost (fun vs H Q E h => ?_) (fun cdv A outer s H vs Q E hr h => ?_)
  · obtain ⟨c, rfl, _⟩ := h
    rfl
  · obtain ⟨c, rfl, k⟩ := h
    have hu := hu_of hr
    refine ⟨_, (pss_one (ps_ret (pe_chain op_le op_le pe_int (pv 0) (pe_cst rfl T.c_MOST_COST)))), ?_⟩
    refine ⟨_, rfl, _, _, rfl, rfl, _, rfl, ?_⟩
    refine ite2 (fun q => ?_) (fun q => ?_)
    · have q := of_decide_eq_true q
      refine ⟨_, _, rfl, rfl, ?_⟩
      have e : decide ((c : Int) ≤ 99) = !decide (c = 0 ∨ 99 < c) := by
        rw [Bool.eq_iff_iff, Bool.not_eq_true', decide_eq_true_eq, decide_eq_false_iff_not]
        omega
      rw [← e] at k
      exact k
    · have q := of_decide_eq_false (Bool.eq_false_iff.mpr q)
      have e : false = !decide (c = 0 ∨ 99 < c) := by
        rw [eq_comm, Bool.not_eq_false', decide_eq_true_eq]
        omega
      rw [← e] at k
      exact k
end
end TB
end
section
namespace TB
open PySem PySem.Spec PyProof.Rows L2
theorem len0 {xs : List Nat} (h : xs.length = 0) : xs = [] := List.eq_nil_of_length_eq_zero h
theorem len1 {xs : List Nat} (h : xs.length = 1) : ∃ x, xs = [x] := match xs, h with | [x], _ => ⟨x, rfl⟩
theorem len2 {xs : List Nat} (h : xs.length = 2) : ∃ x y, xs = [x, y] := match xs, h with | [x, y], _ => ⟨x, y, rfl⟩
theorem len3 {xs : List Nat} (h : xs.length = 3) : ∃ x y z, xs = [x, y, z] := match xs, h with | [x, y, z], _ => ⟨x, y, z, rfl⟩
theorem nV_app (l m : List Nat) : nV (l ++ m) = nV l ++ nV m := by
  unfold nV
  rw [List.map_append]
theorem nV_set (l : List Nat) (i x : Nat) : (nV l).set i (iV x) = nV (l.set i x) := by
  unfold nV
  rw [List.map_set]
theorem ixN_nat {n j : Nat} (h : j < n) : ixN n (j : Int) = some j := by
  unfold ixN
  rw [if_pos (by omega), if_pos (by omega)]
  rfl
theorem contains_tree (n : Net) (i : Nat) : (Su200.treeLinks n).contains i = Su200.isTreeLink n i := by
  rw [Bool.eq_iff_iff, List.contains_iff_mem]
  exact mem_treeLinks
theorem int_bool (b : Bool) : V.int (if b then 1 else 0) = iV (Su200.boolToNat b) := by cases b <;> rfl
/-- new ids -/
theorem NetC.ids_set {CN CL : Addr} {H : Hp} {ad : Ad} {d : Lan} (N : NetC CN CL H ad d) {xs : List V} {l : List Nat} (e : xs = nV l) : NetC CN CL (upd H ad.aI (.lst xs)) ad { d with network := { d.network with bridgeIds := l } } := by
  subst e
  obtain ⟨dx, h1⟩ := N.nw
  obtain ⟨kvs, h2, h3⟩ := N.hosts
  refine ⟨⟨dx, ?_⟩, upd_same, ⟨?_, N.lks.each.mono fun a x _ r => r.imp fun d' q => ?_⟩, N.lnd, ⟨kvs, ?_, h3⟩, N.dIL, N.dN⟩
  · rw [upd_ne (ne_of h1 N.ids (by intro z; cases z))]
    exact h1
  · rw [upd_ne N.dIL.symm]
    exact N.lks.lst
  · rw [upd_ne (ne_of q N.ids (by intro z; cases z))]
    exact q
  · rw [upd_ne (ne_of h2 N.ids (by intro z; cases z))]
    exact h2
/-- a link changed -/
theorem NetC.link_set {CN CL : Addr} {H : Hp} {ad : Ad} {d : Lan} (N : NetC CN CL H ad d) {i : Nat} {la dl : Addr} {l0 l : Lk} {fs : List (Str × V)} (hi : ad.las[i]? = some la) (hl : H la = some (.ins CL dl (lF l0))) (e : fs = lF l) :
    NetC CN CL (upd H la (.ins CL dl fs)) ad { d with network := { d.network with links := d.network.links.set i l } } := by
  subst e
  obtain ⟨dx, h1⟩ := N.nw
  obtain ⟨kvs, h2, h3⟩ := N.hosts
  have nl : ad.nw ≠ la := fun q => N.dN (by rw [q]; exact List.mem_of_getElem? hi)
  refine ⟨⟨dx, by rw [upd_ne nl]; exact h1⟩, ?_, ⟨?_, by rw [List.length_set]; exact N.lks.each.len, fun j a x e1 e2 => ?_⟩, N.lnd, ⟨kvs, ?_, h3⟩, N.dIL, N.dN⟩
  · rw [upd_ne (ne_of N.ids hl (by intro z; cases z))]
    exact N.ids
  · rw [upd_ne (ne_of N.lks.lst hl (by intro z; cases z))]
    exact N.lks.lst
  · by_cases c : j = i
    · subst c
      have ea : a = la := Option.some.inj (e1.symm.trans hi)
      subst ea
      have hj : j < d.network.links.length := by
        rw [← N.lks.each.len]
        exact (List.getElem?_eq_some_iff.mp e1).1
      rw [List.getElem?_set_self hj] at e2
      cases e2
      exact ⟨dl, upd_same⟩
    · rw [List.getElem?_set_ne (Ne.symm c)] at e2
      have na : a ≠ la := fun q => c (by
        subst q
        exact nd_ix N.lnd e1 hi)
      exact (N.lks.each.at_ j a x e1 e2).imp fun d' q => by
        rw [upd_ne na]
        exact q
  · rw [upd_ne (ne_of h2 hl (by intro z; cases z))]
    exact h2
theorem fr_forget {H H1 H2 : Hp} {ad ad1 : Ad} {aT : Addr} {tas : List Addr} (hk : ∀ b o, H b = some o → ¬ ad.own b → H1 b = some o) (hn : ∀ b, H1 b = none → H b = none)
    (ho : ∀ b, (b = ad1.nw ∨ b = ad1.aI ∨ b = ad1.aL ∨ b = ad1.aH ∨ b ∈ ad1.las) → ad.own b ∨ H b = none) (e : ad1.nw = ad.nw) (kf : ∀ b o, H1 b = some o → b ≠ ad1.nw → H2 b = some o) (hT : H1 aT = none) (ht : ∀ t ∈ tas, H1 t = none) : Fr H H2 ad { ad1 with aT := aT, tas := tas } := by
  refine ⟨fun b o h q => kf b o (hk b o h q) fun z => q (.inl (z.trans e)), fun b q => ?_⟩
  rcases q with q | q | q | q | q | q | q
  · exact ho b (.inl q)
  · exact ho b (.inr (.inl q))
  · exact ho b (.inr (.inr (.inl q)))
  · exact ho b (.inr (.inr (.inr (.inl q))))
  · exact .inr (by rw [show b = aT from q]; exact hn _ hT)
  · exact ho b (.inr (.inr (.inr (.inr q))))
  · exact .inr (hn _ (ht b q))
theorem own_core {ad : Ad} {b : Addr} (h : b = ad.nw ∨ b = ad.aI ∨ b = ad.aL ∨ b = ad.aH ∨ b ∈ ad.las) : ad.own b := by
  rcases h with h | h | h | h | h
  · exact .inl h
  · exact .inr (.inl h)
  · exact .inr (.inr (.inl h))
  · exact .inr (.inr (.inr (.inl h)))
  · exact .inr (.inr (.inr (.inr (.inr (.inl h)))))
/-- the case that one thing of the network is stored into -/
theorem fr_upd {H H1 : Hp} {ad : Ad} {a : Addr} {o : HO} (s : Same H H1) (ha : ad.own a) (hs : ∃ u, H a = some u) : (∀ b x, H b = some x → ¬ ad.own b → (upd H1 a o) b = some x) ∧ ∀ b, (upd H1 a o) b = none → H b = none := by
  refine ⟨fun b x h q => ?_, fun b h => ?_⟩
  · rw [upd_ne fun z => q (by rw [z]; exact ha)]
    exact s b x h
  · by_cases z : b = a
    · rw [z, upd_same] at h
      cases h
    · rw [upd_ne z] at h
      exact s.free h
theorem fresh_after {H H1 H2 : Hp} {nw p : Addr} {u : HO} (f2 : ∀ b, H1 b = none → H b = none) (kf : ∀ b o, H1 b = some o → b ≠ nw → H2 b = some o) (h2 : H2 nw = some u) (hp : H2 p = none) : H p = none := by
  refine f2 p ?_
  cases e : H1 p with
  | none => rfl
  | some o =>
    by_cases z : p = nw
    · rw [z, h2] at hp
      cases hp
    · rw [kf p o e z] at hp
      cases hp
/-- where the link i of the network stands -/
theorem NetC.link {CN CL : Addr} {H : Hp} {ad : Ad} {d : Lan} (N : NetC CN CL H ad d) {i : Nat} (hi : i < d.network.links.length) : ∃ (la dl : Addr), ad.las[i]? = some la ∧ (ad.las.map V.ref)[i]? = some (.ref la) ∧ H la = some (.ins CL dl (lF (lnk d.network i))) := by
  obtain ⟨la, h1, h2, dl, h3⟩ := N.lks.each.get (link_get hi)
  exact ⟨la, dl, h1, h2, h3⟩
section
variable {P : Program} {w : World} {K : PySem.W.Frag} {mg : Str → Option Value} {base : Heap} {CN CL tM : Addr}
/-! ### add_bridge -/
abbrev s_add_bridge : Stmt := topS 48
theorem sc_add_bridge : FnScope ["network", "bridge_id"] ["network", "bridge_id"] (defScope s_add_bridge) := ⟨rfl, rfl, rfl, by decide +kernel, rfl, by decide +kernel, by decide +kernel⟩
def sp_add_bridge (K : PySem.W.Frag) (CN CL : Addr) : Sp := spOp CN CL 1 fun xs => .addBridge (xs.getD 0 0)
theorem ok_add_bridge {f : Addr} {fd : FuncData} (F : Fun K "add_bridge" "add_bridge" s_add_bridge f fd) (T : Txt K mg CN CL tM) {f_Network_forget : Addr} {fd_Network_forget : FuncData} (c_Network_forget : CalM P w K mg base "forget" CN 1 ["self"] (sp_Network_forget K CN CL) f_Network_forget fd_Network_forget) : FnOk P w K mg base CX0 2 f fd ["network", "bridge_id"] (sp_add_bridge K CN CL) := by
  refine F.ok sc_add_bridge (fun vs H Q E h => spOp.len h) (fun cdv A outer s H vs Q E hr h => ?_)
  · obtain ⟨ad, d, xs, rfl, hxs, N, O, k⟩ := h
    obtain ⟨x, rfl⟩ := len1 hxs
    have hu := hu_of hr
    have k : Post CN CL H ad d (.addBridge x) Q := k
    obtain ⟨dx, hnw⟩ := id N.c.nw
    have hle := O.wf.idsLe
    refine ⟨_, (pss_cons (ps_if (pt_cmpR op_gt (pv 1) (pe_cst rfl T.c_MOST_ID) (nomark _))
      (pss_one (ps_ret (pe_lst (pa_cons (pe_cst rfl T.c_OUT_OF_RANGE) pa_nil))))
      pss_nil)
      (pss_cons (ps_if (pt_cmpR op_in_seq (pv 1) (pe_fld (pv 0) rfl) (by rfl))
      (pss_one (ps_ret (pe_lst (pa_cons (pe_cst rfl T.c_IN_USE) pa_nil))))
      pss_nil)
      (pss_cons (ps_if (pt_cmpR op_eq (pe_callB call_len_seq (by rfl) T.nLen PySem.boot_len (pa_cons (pe_fld (pv 0) rfl) pa_nil)) (pe_cst rfl T.c_MOST_BRIDGES) (nomark _))
      (pss_one (ps_ret (pe_lst (pa_cons (pe_cst rfl T.c_FULL) pa_nil))))
      pss_nil)
      (pss_cons (ps_expr (pe_bm PySem.F.plainAttrs_list PySem.F.slot_list_append PySem.F.type_list_append mt_append (pe_fld (pv 0) rfl) (pa_cons (pv 1) pa_nil)))
      (pss_cons (ps_expr (pe_meth0 (pv 0) T.clN c_Network_forget.mt c_Network_forget.ok (hr.mono (by decide)) c_Network_forget.b .nil pass0))
      (pss_one (ps_ret (pe_lst (pa_cons (pe_op op_sub (pe_callB call_len_seq (by rfl) T.nLen PySem.boot_len (pa_cons (pe_fld (pv 0) rfl) pa_nil)) pe_int) pa_nil))))))))), ?_⟩
    -- if bridge_id > MOST_ID
    refine ⟨_, rfl, _, _, rfl, rfl, _, rfl, ?_⟩
    refine ite2 (fun c => ?_) (fun c => ?_)
    · have c := of_decide_eq_true c
      refine ⟨(by show 1 ≤ sizeLine; decide), fun p hp => fin_same k N (if_pos (by omega)) (same_upd hp) hp upd_same rfl⟩
    have c := of_decide_eq_false (Bool.eq_false_iff.mpr c)
    have c : ¬ 9999 < x := by omega
    -- if bridge_id in network.ids
    refine ⟨_, rfl, _, rfl, _, _, _, _, _, rfl, hnw, T.clN, T.nIds, nF_ids ad, _, _, rfl, .inl (SqL.of N.c.ids), rfl, flat_nV _, _, rfl, ?_⟩
    refine ite2 (fun c2 => ?_) (fun c2 => ?_)
    · have c2 : inV (iV x) (nV d.network.bridgeIds) = true := c2
      rw [inV_nV] at c2
      refine ⟨(by show 1 ≤ sizeLine; decide), fun p hp => fin_same k N ((if_neg c).trans (if_pos c2)) (same_upd hp) hp upd_same rfl⟩
    have c2 : ¬ inV (iV x) (nV d.network.bridgeIds) = true := c2
    rw [inV_nV] at c2
    -- if len(network.ids) == MOST_BRIDGES
    refine ⟨_, rfl, _, _, _, _, _, rfl, hnw, T.clN, T.nIds, nF_ids ad, _, _, rfl, .inl (SqL.of N.c.ids), rfl, _, rfl, ?_⟩
    rw [nV_len]
    refine ite2 (fun c3 => ?_) (fun c3 => ?_)
    · have c3 : ((d.network.bridgeIds.length : Nat) : Int) = 7 := V.int.inj (of_decide_eq_true c3)
      refine ⟨(by show 1 ≤ sizeLine; decide), fun p hp => fin_same k N ((if_neg c).trans ((if_neg c2).trans (if_pos (by unfold Su200.maxBridges Su200.bridgeCount; omega)))) (same_upd hp) hp upd_same rfl⟩
    have c3 : ¬ ((d.network.bridgeIds.length : Nat) : Int) = 7 := fun q => c3 (decide_eq_true (congrArg V.int q))
    have c3 : ¬ Su200.maxBridges ≤ Su200.bridgeCount d.network := by unfold Su200.maxBridges Su200.bridgeCount; omega
    -- network.ids.append(bridge_id)
    refine ⟨_, rfl, _, _, _, _, _, rfl, hnw, T.clN, T.nIds, nF_ids ad, .inl ⟨rfl, _, SqL.of N.c.ids⟩, _, rfl, ad.aI, _, _, rfl, rfl, N.c.ids, by rw [nV_len]; exact small_of (m := 7) hle, ?_⟩
    have N1 := N.c.ids_set (l := d.network.bridgeIds ++ [x]) (xs := nV d.network.bridgeIds ++ [iV x]) (by rw [nV_app]; rfl)
    have W1 := wf_addBridge O.wf (by simpa using c2) c3
    obtain ⟨f1, f2⟩ := fr_upd (o := .lst (nV d.network.bridgeIds ++ [iV x])) (Same.refl H) (own_core (ad := ad) (b := ad.aI) (.inr (.inl rfl))) ⟨_, N.c.ids⟩
    obtain ⟨dx1, hnw1⟩ := id N1.nw
    -- network.forget()
    refine ⟨_, rfl, ad.nw, dx1, _, rfl, hnw1, nF_forget ad, ad, _, rfl, N1, W1, fun H2 aT tas N2 kf hT ht => ?_⟩
    obtain ⟨dx2, hnw2⟩ := id N2.c.nw
    -- return [len(network.ids) - 1]
    refine ⟨_, rfl, _, _, _, _, _, rfl, hnw2, T.clN, T.nIds, nF_ids _, _, _, rfl, .inl (SqL.of N2.c.ids), _, _, rfl, rfl, (by show 1 ≤ sizeLine; decide), fun p hp => ?_⟩
    have fr := fr_forget f1 f2 (fun b q => .inl (own_core q)) rfl kf hT ht
    have hp0 : H p = none := fresh_after f2 kf hnw2 hp
    refine fin_new k ((if_neg c).trans ((if_neg c2).trans (if_neg c3))) N2 rfl fr hp hp0 ?_
    rw [nV_len]
    show [V.int (((d.network.bridgeIds ++ [x]).length : Nat) - 1 : Int)] = [iV d.network.bridgeIds.length]
    rw [List.length_append]
    unfold iV
    congr 2
    simp only [List.length_singleton]
    omega
end
end TB
end
section
namespace TB
open PySem PySem.Spec PyProof.Rows L2
section
variable {P : Program} {w : World} {K : PySem.W.Frag} {mg : Str → Option Value} {base : Heap} {CN CL tM : Addr}
/-! ### add_link -/
abbrev s_add_link : Stmt := topS 49
theorem sc_add_link : FnScope ["network", "one", "other", "cost"] ["network", "one", "other", "cost"] (defScope s_add_link) := ⟨rfl, rfl, rfl, by decide +kernel, rfl, by decide +kernel, by decide +kernel⟩
def sp_add_link (K : PySem.W.Frag) (CN CL : Addr) : Sp := spOp CN CL 3 fun xs => .addLink (xs.getD 0 0) (xs.getD 1 0) (xs.getD 2 0)
theorem ok_add_link {f : Addr} {fd : FuncData} (F : Fun K "add_link" "add_link" s_add_link f fd) (T : Txt K mg CN CL tM) {f_Network_forget : Addr} {fd_Network_forget : FuncData} (c_Network_forget : CalM P w K mg base "forget" CN 1 ["self"] (sp_Network_forget K CN CL) f_Network_forget fd_Network_forget) {f_Link_init : Addr} {fd_Link_init : FuncData} (c_Link_init : CalC P w K mg base "Link" CL 1 ["self", "one", "other", "cost", "is_up"] (sp_Link_init K CN CL) f_Link_init fd_Link_init) {f_Network_has_bridge : Addr} {fd_Network_has_bridge : FuncData} (c_Network_has_bridge : CalM P w K mg base "has_bridge" CN 1 ["self", "bridge"] (sp_Network_has_bridge K CN CL) f_Network_has_bridge fd_Network_has_bridge) {f_is_cost : Addr} {fd_is_cost : FuncData} (c_is_cost : Cal P w K mg base "is_cost" 1 ["cost"] (sp_is_cost K CN CL) f_is_cost fd_is_cost) : FnOk P w K mg base CX0 3 f fd ["network", "one", "other", "cost"] (sp_add_link K CN CL) := by
  refine F.ok sc_add_link (fun vs H Q E h => spOp.len h) (fun cdv A outer s H vs Q E hr h => ?_)
  · obtain ⟨ad, d, xs, rfl, hxs, N, O, k⟩ := h
    obtain ⟨a, b, x, rfl⟩ := len3 hxs
    have hu := hu_of hr
    have k : Post CN CL H ad d (.addLink a b x) Q := k
    obtain ⟨dx, hnw⟩ := id N.c.nw
    have hle := O.wf.linksLe
    have hll : (ad.las.map V.ref).length = d.network.links.length := by
      rw [List.length_map]
      exact N.c.lks.each.len
    refine ⟨_, (pss_cons (ps_if (PW.pt (pw_or (pt_not (pt_val (pe_meth (pv 0) T.clN c_Network_has_bridge.mt c_Network_has_bridge.ok (hr.mono (by decide)) c_Network_has_bridge.b .nil pass0 (pa_cons (pv 1) pa_nil)))) (pw_or1 (pt_not (pt_val (pe_meth (pv 0) T.clN c_Network_has_bridge.mt c_Network_has_bridge.ok (hr.mono (by decide)) c_Network_has_bridge.b .nil pass0 (pa_cons (pv 2) pa_nil)))))))
      (pss_one (ps_ret (pe_lst (pa_cons (pe_cst rfl T.c_NOT_THERE) pa_nil))))
      pss_nil)
      (pss_cons (ps_if (PW.pt (pw_or (pt_cmpR op_eq (pv 1) (pv 2) (nomark _)) (pw_or1 (pt_not (pt_val (pe_call c_is_cost.ok (hr.mono (by decide)) (by rfl) c_is_cost.mg c_is_cost.kp c_is_cost.b .nil pass0 (pa_cons (pv 3) pa_nil)))))))
      (pss_one (ps_ret (pe_lst (pa_cons (pe_cst rfl T.c_OUT_OF_RANGE) pa_nil))))
      pss_nil)
      (pss_cons (ps_if (pt_cmpR op_eq (pe_callB call_len_seq (by rfl) T.nLen PySem.boot_len (pa_cons (pe_fld (pv 0) rfl) pa_nil)) (pe_cst rfl T.c_MOST_LINKS) (nomark _))
      (pss_one (ps_ret (pe_lst (pa_cons (pe_cst rfl T.c_FULL) pa_nil))))
      pss_nil)
      (pss_cons (ps_expr (pe_bm PySem.F.plainAttrs_list PySem.F.slot_list_append PySem.F.type_list_append mt_append (pe_fld (pv 0) rfl) (pa_cons (pe_make c_Link_init.mkC c_Link_init.ok (hr.mono (by decide)) (by rfl) c_Link_init.mg c_Link_init.b .nil pass0 (pa_cons (pv 1) (pa_cons (pv 2) (pa_cons (pv 3) (pa_cons pe_bl pa_nil))))) pa_nil)))
      (pss_cons (ps_expr (pe_meth0 (pv 0) T.clN c_Network_forget.mt c_Network_forget.ok (hr.mono (by decide)) c_Network_forget.b .nil pass0))
      (pss_one (ps_ret (pe_lst (pa_cons (pe_op op_sub (pe_callB call_len_seq (by rfl) T.nLen PySem.boot_len (pa_cons (pe_fld (pv 0) rfl) pa_nil)) pe_int) pa_nil))))))))), ?_⟩
    have ret2 : (Su200.hasBridge d a = false ∨ Su200.hasBridge d b = false) → ∀ p, H p = none → Q (.ref p) (upd H p (.lst [V.int (-2)])) := fun c p hp =>
      fin_same k N (if_pos c) (same_upd hp) hp upd_same rfl
    -- if not network.has_bridge(one) or not network.has_bridge(other)
    refine ⟨_, rfl, ad.nw, dx, _, rfl, hnw, nF_has_bridge ad, _, rfl, ad, d, a, rfl, N.c, _, rfl, ?_⟩
    cases ca : Su200.hasBridge d a with
    | false => exact ⟨(by show 1 ≤ sizeLine; decide), ret2 (.inl ca)⟩
    | true =>
    refine iteF ?_
    refine ⟨_, rfl, ad.nw, dx, _, rfl, hnw, nF_has_bridge ad, _, rfl, ad, d, b, rfl, N.c, _, rfl, ?_⟩
    cases cb : Su200.hasBridge d b with
    | false => exact ⟨(by show 1 ≤ sizeLine; decide), ret2 (.inr cb)⟩
    | true =>
    refine iteF ?_
    have c1 : ¬ (Su200.hasBridge d a = false ∨ Su200.hasBridge d b = false) := by
      rw [ca, cb]
      simp
    -- if one == other or not is_cost(cost)
    refine ⟨_, rfl, _, rfl, rfl, _, rfl, ?_⟩
    have ret22 : (a = b ∨ x = 0 ∨ 99 < x) → ∀ p, H p = none → Q (.ref p) (upd H p (.lst [V.int (-22)])) := fun c p hp =>
      fin_same k N ((if_neg c1).trans (if_pos c)) (same_upd hp) hp upd_same rfl
    refine ite2 (fun c => ?_) (fun c => ?_)
    · have c : a = b := iV_inj (of_decide_eq_true c)
      exact iteT ⟨(by show 1 ≤ sizeLine; decide), ret22 (.inl c)⟩
    have c : ¬ a = b := fun q => c (decide_eq_true (congrArg iV q))
    refine ⟨_, rfl, x, rfl, _, rfl, ?_⟩
    by_cases cx : x = 0 ∨ 99 < x
    · rw [decide_eq_true cx]
      exact iteT ⟨(by show 1 ≤ sizeLine; decide), ret22 (.inr cx)⟩
    rw [decide_eq_false cx]
    refine iteF ?_
    have c2 : ¬ (a = b ∨ x = 0 ∨ 99 < x) := fun q => q.elim c cx
    -- if len(network.links) == MOST_LINKS
    refine ⟨_, rfl, _, _, _, _, _, rfl, hnw, T.clN, T.nLinks, nF_links ad, _, _, rfl, .inl (SqL.of N.c.lks.lst), rfl, _, rfl, ?_⟩
    rw [hll]
    refine ite2 (fun c3 => ?_) (fun c3 => ?_)
    · have c3 : ((d.network.links.length : Nat) : Int) = 12 := V.int.inj (of_decide_eq_true c3)
      exact ⟨(by show 1 ≤ sizeLine; decide), fun p hp => fin_same k N ((if_neg c1).trans ((if_neg c2).trans (if_pos (by unfold Su200.maxLinks; omega)))) (same_upd hp) hp upd_same rfl⟩
    have c3 : ¬ ((d.network.links.length : Nat) : Int) = 12 := fun q => c3 (decide_eq_true (congrArg V.int q))
    have c3 : ¬ Su200.maxLinks ≤ d.network.links.length := by unfold Su200.maxLinks; omega
    have h12 : d.network.links.length < 12 := by unfold Su200.maxLinks at c3; omega
    -- network.links.append(Link(one, other, cost, True))
    refine ⟨_, rfl, _, _, _, _, _, rfl, hnw, T.clN, T.nLinks, nF_links ad, .inl ⟨rfl, _, SqL.of N.c.lks.lst⟩, _, rfl, _, rfl, _, rfl, ?_⟩
    intro y dy ny ndy ney
    refine ⟨y, dy, ⟨a, b, x, true⟩, rfl, upd_same, fun H1 h1 ho => ⟨rfl, ?_⟩⟩
    have s1 : Same H H1 := fun c o e => by
      rw [ho c (ne_of_none e ny), upd_ne (ne_of_none e ny), upd_ne (ne_of_none e ndy)]
      exact e
    have hL1 := s1 _ _ N.c.lks.lst
    refine ⟨ad.aL, _, _, rfl, rfl, hL1, by rw [hll]; exact small_of (m := 12) hle, ?_⟩
    have nyL : y ≠ ad.aL := (ne_of_none N.c.lks.lst ny).symm
    have nLl : y ∉ ad.las := fun q => by
      obtain ⟨o, e⟩ := each_some N.c.lks.each (fun a x h => by obtain ⟨dx, h⟩ := h; exact ⟨_, h⟩) q
      rw [ny] at e
      cases e
    have kp : ∀ {c : Addr} {o : HO}, H c = some o → c ≠ ad.aL → (upd H1 ad.aL (.lst (ad.las.map V.ref ++ [.ref y]))) c = some o := fun {c o} e q => by
      rw [upd_ne q]
      exact s1 _ _ e
    obtain ⟨kvs, hh1, hh2⟩ := N.c.hosts
    have N1 : NetC CN CL (upd H1 ad.aL (.lst (ad.las.map V.ref ++ [.ref y]))) { ad with las := ad.las ++ [y] } { d with network := { d.network with links := d.network.links ++ [⟨a, b, x, true⟩] } } := by
      refine ⟨⟨dx, kp hnw (ne_of hnw N.c.lks.lst (by intro z; cases z))⟩, kp N.c.ids N.c.dIL, ⟨?_, (N.c.lks.each.mono fun c x _ r => r.imp fun d' q => kp q (ne_of q N.c.lks.lst (by intro z; cases z))).snoc ⟨dy, ?_⟩⟩, ?_, ⟨kvs, kp hh1 (ne_of hh1 N.c.lks.lst (by intro z; cases z)), hh2⟩, N.c.dIL, ?_⟩
      · rw [upd_same, List.map_append]
        rfl
      · rw [upd_ne nyL]
        exact h1
      · rw [List.nodup_append]
        refine ⟨N.c.lnd, by simp, fun c hc e he q => ?_⟩
        rw [List.mem_singleton] at he
        subst he q
        exact nLl hc
      · show ad.nw ∉ ad.las ++ [y]
        rw [List.mem_append, List.mem_singleton]
        exact fun q => q.elim N.c.dN (ne_of_none hnw ny)
    have W1 : WF { d.network with links := d.network.links ++ [⟨a, b, x, true⟩] } := by
      refine wf_links O.wf (by rw [List.length_append, List.length_singleton]; omega) fun l hl => ?_
      rw [List.mem_append, List.mem_singleton] at hl
      rcases hl with hl | rfl
      · exact .inl hl
      · right
        unfold Su200.hasBridge Su200.bridgeCount at ca cb
        have ca := of_decide_eq_true ca
        have cb := of_decide_eq_true cb
        simp only
        omega
    obtain ⟨f1, f2⟩ := fr_upd (o := .lst (ad.las.map V.ref ++ [.ref y])) s1 (own_core (ad := ad) (b := ad.aL) (.inr (.inr (.inl rfl)))) ⟨_, N.c.lks.lst⟩
    obtain ⟨dx1, hnw1⟩ := id N1.nw
    -- network.forget()
    refine ⟨_, rfl, ad.nw, dx1, _, rfl, hnw1, nF_forget _, { ad with las := ad.las ++ [y] }, _, rfl, N1, W1, fun H2 aT tas N2 kf hT ht => ?_⟩
    obtain ⟨dx2, hnw2⟩ := id N2.c.nw
    have hl2 : ((ad.las ++ [y]).map V.ref).length = d.network.links.length + 1 := by
      rw [List.length_map, List.length_append, N.c.lks.each.len]
      rfl
    -- return [len(network.links) - 1]
    refine ⟨_, rfl, _, _, _, _, _, rfl, hnw2, T.clN, T.nLinks, nF_links _, _, _, rfl, .inl (SqL.of N2.c.lks.lst), _, _, rfl, rfl, (by show 1 ≤ sizeLine; decide), fun p hp => ?_⟩
    have fr := fr_forget (ad1 := { ad with las := ad.las ++ [y] }) f1 f2 (fun b q => by
      rcases q with q | q | q | q | q
      · exact .inl (own_core (.inl q))
      · exact .inl (own_core (.inr (.inl q)))
      · exact .inl (own_core (.inr (.inr (.inl q))))
      · exact .inl (own_core (.inr (.inr (.inr (.inl q)))))
      · have q : b ∈ ad.las ++ [y] := q
        rw [List.mem_append, List.mem_singleton] at q
        rcases q with q | rfl
        · exact .inl (own_core (.inr (.inr (.inr (.inr q)))))
        · exact .inr ny) rfl kf hT ht
    refine fin_new k ((if_neg c1).trans ((if_neg c2).trans (if_neg c3))) N2 rfl fr hp (fresh_after f2 kf hnw2 hp) ?_
    rw [hl2]
    show [V.int (((d.network.links.length + 1 : Nat) : Int) - 1)] = [iV d.network.links.length]
    unfold iV
    congr 2
    omega
/-! ### set_bridge_id, set_cost -/
abbrev s_set_bridge_id : Stmt := topS 53
theorem sc_set_bridge_id : FnScope ["network", "bridge", "bridge_id", "previous"] ["network", "bridge", "bridge_id"] (defScope s_set_bridge_id) := ⟨rfl, rfl, rfl, by decide +kernel, rfl, by decide +kernel, by decide +kernel⟩
def sp_set_bridge_id (K : PySem.W.Frag) (CN CL : Addr) : Sp := spOp CN CL 2 fun xs => .setBridgeId (xs.getD 0 0) (xs.getD 1 0)
theorem ok_set_bridge_id {f : Addr} {fd : FuncData} (F : Fun K "set_bridge_id" "set_bridge_id" s_set_bridge_id f fd) (T : Txt K mg CN CL tM) {f_Network_forget : Addr} {fd_Network_forget : FuncData} (c_Network_forget : CalM P w K mg base "forget" CN 1 ["self"] (sp_Network_forget K CN CL) f_Network_forget fd_Network_forget) {f_Network_has_bridge : Addr} {fd_Network_has_bridge : FuncData} (c_Network_has_bridge : CalM P w K mg base "has_bridge" CN 1 ["self", "bridge"] (sp_Network_has_bridge K CN CL) f_Network_has_bridge fd_Network_has_bridge) : FnOk P w K mg base CX0 2 f fd ["network", "bridge", "bridge_id"] (sp_set_bridge_id K CN CL) := by
  refine F.ok sc_set_bridge_id (fun vs H Q E h => spOp.len h) (fun cdv A outer s H vs Q E hr h => ?_)
  · obtain ⟨ad, d, xs, rfl, hxs, N, O, k⟩ := h
    obtain ⟨v, x, rfl⟩ := len2 hxs
    have hu := hu_of hr
    have k : Post CN CL H ad d (.setBridgeId v x) Q := k
    obtain ⟨dx, hnw⟩ := id N.c.nw
    have hle := O.wf.idsLe
    refine ⟨_, (pss_cons (ps_if (pt_not (pt_val (pe_meth (pv 0) T.clN c_Network_has_bridge.mt c_Network_has_bridge.ok (hr.mono (by decide)) c_Network_has_bridge.b .nil pass0 (pa_cons (pv 1) pa_nil))))
      (pss_one (ps_ret (pe_lst (pa_cons (pe_cst rfl T.c_NOT_THERE) pa_nil))))
      pss_nil)
      (pss_cons (ps_if (pt_cmpR op_gt (pv 2) (pe_cst rfl T.c_MOST_ID) (nomark _))
      (pss_one (ps_ret (pe_lst (pa_cons (pe_cst rfl T.c_OUT_OF_RANGE) pa_nil))))
      pss_nil)
      (pss_cons (ps_if (pt_cmpR op_in_seq (pv 2) (pe_fld (pv 0) rfl) (by rfl))
      (pss_one (ps_ret (pe_lst (pa_cons (pe_cst rfl T.c_IN_USE) pa_nil))))
      pss_nil)
      (pss_cons (ps_set (i := 3) sc_set_bridge_id.nd rfl (Or.inl rfl) (pe_ix ix_list (pe_fld (pv 0) rfl) (pv 1) (fun _ _ => rfl)))
      (pss_cons (ps_asg (pv 2) (pg_sub (pe_fld (pv 0) rfl) (pv 1) set_list))
      (pss_cons (ps_expr (pe_meth0 (pv 0) T.clN c_Network_forget.mt c_Network_forget.ok (hr.mono (by decide)) c_Network_forget.b .nil pass0))
      (pss_one (ps_ret (pe_lst (pa_cons (pv 3) pa_nil)))))))))), ?_⟩
    refine ⟨_, rfl, ad.nw, dx, _, rfl, hnw, nF_has_bridge ad, _, rfl, ad, d, v, rfl, N.c, _, rfl, ?_⟩
    cases ca : Su200.hasBridge d v with
    | false => exact iteT ⟨(by show 1 ≤ sizeLine; decide), fun p hp => fin_same k N (if_pos ca) (same_upd hp) hp upd_same rfl⟩
    | true =>
    refine iteF ?_
    have c1 : ¬ Su200.hasBridge d v = false := by
      rw [ca]
      simp
    have hv : v < d.network.bridgeIds.length := of_decide_eq_true ca
    -- if bridge_id > MOST_ID
    refine ⟨_, rfl, _, _, rfl, rfl, _, rfl, ?_⟩
    refine ite2 (fun c => ?_) (fun c => ?_)
    · have c := of_decide_eq_true c
      refine ⟨(by show 1 ≤ sizeLine; decide), fun p hp => fin_same k N ((if_neg c1).trans (if_pos (by omega))) (same_upd hp) hp upd_same rfl⟩
    have c := of_decide_eq_false (Bool.eq_false_iff.mpr c)
    have c : ¬ 9999 < x := by omega
    -- if bridge_id in network.ids
    refine ⟨_, rfl, _, rfl, _, _, _, _, _, rfl, hnw, T.clN, T.nIds, nF_ids ad, _, _, rfl, .inl (SqL.of N.c.ids), rfl, flat_nV _, _, rfl, ?_⟩
    refine ite2 (fun c2 => ?_) (fun c2 => ?_)
    · have c2 : inV (iV x) (nV d.network.bridgeIds) = true := c2
      rw [inV_nV] at c2
      refine ⟨(by show 1 ≤ sizeLine; decide), fun p hp => fin_same k N ((if_neg c1).trans ((if_neg c).trans (if_pos c2))) (same_upd hp) hp upd_same rfl⟩
    have c2 : ¬ inV (iV x) (nV d.network.bridgeIds) = true := c2
    rw [inV_nV] at c2
    -- previous = network.ids[bridge]; network.ids[bridge] = bridge_id
    refine ⟨_, rfl, _, _, _, _, _, rfl, hnw, T.clN, T.nIds, nF_ids ad, _, rfl, _, _, _, _, rfl, rfl, SqL.of N.c.ids, at_nat (nV_get hv 0), ?_⟩
    refine ⟨_, rfl, _, rfl, _, _, _, _, _, rfl, hnw, T.clN, T.nIds, nF_ids ad, _, rfl, ad.aI, _, _, v, rfl, rfl, N.c.ids, ixN_nat (by rw [nV_len]; exact hv), ?_⟩
    have N1 := N.c.ids_set (l := d.network.bridgeIds.set v x) (xs := (nV d.network.bridgeIds).set v (iV x)) (nV_set _ _ _)
    have W1 := wf_setId (v := v) O.wf (by simpa using c2)
    obtain ⟨f1, f2⟩ := fr_upd (o := .lst ((nV d.network.bridgeIds).set v (iV x))) (Same.refl H) (own_core (ad := ad) (b := ad.aI) (.inr (.inl rfl))) ⟨_, N.c.ids⟩
    obtain ⟨dx1, hnw1⟩ := id N1.nw
    refine ⟨_, rfl, ad.nw, dx1, _, rfl, hnw1, nF_forget ad, ad, _, rfl, N1, W1, fun H2 aT tas N2 kf hT ht => ?_⟩
    obtain ⟨dx2, hnw2⟩ := id N2.c.nw
    refine ⟨_, rfl, (by show 1 ≤ sizeLine; decide), fun p hp => ?_⟩
    have fr := fr_forget f1 f2 (fun b q => .inl (own_core q)) rfl kf hT ht
    exact fin_new k ((if_neg c1).trans ((if_neg c).trans (if_neg c2))) N2 rfl fr hp (fresh_after f2 kf hnw2 hp) rfl
abbrev s_set_cost : Stmt := topS 52
theorem sc_set_cost : FnScope ["network", "number", "cost", "previous"] ["network", "number", "cost"] (defScope s_set_cost) := ⟨rfl, rfl, rfl, by decide +kernel, rfl, by decide +kernel, by decide +kernel⟩
def sp_set_cost (K : PySem.W.Frag) (CN CL : Addr) : Sp := spOp CN CL 2 fun xs => .setCost (xs.getD 0 0) (xs.getD 1 0)
theorem ok_set_cost {f : Addr} {fd : FuncData} (F : Fun K "set_cost" "set_cost" s_set_cost f fd) (T : Txt K mg CN CL tM) {f_Network_forget : Addr} {fd_Network_forget : FuncData} (c_Network_forget : CalM P w K mg base "forget" CN 1 ["self"] (sp_Network_forget K CN CL) f_Network_forget fd_Network_forget) {f_Network_has_link : Addr} {fd_Network_has_link : FuncData} (c_Network_has_link : CalM P w K mg base "has_link" CN 1 ["self", "link"] (sp_Network_has_link K CN CL) f_Network_has_link fd_Network_has_link) {f_is_cost : Addr} {fd_is_cost : FuncData} (c_is_cost : Cal P w K mg base "is_cost" 1 ["cost"] (sp_is_cost K CN CL) f_is_cost fd_is_cost) : FnOk P w K mg base CX0 2 f fd ["network", "number", "cost"] (sp_set_cost K CN CL) := by
  refine F.ok sc_set_cost (fun vs H Q E h => spOp.len h) (fun cdv A outer s H vs Q E hr h => ?_)
  · obtain ⟨ad, d, xs, rfl, hxs, N, O, k⟩ := h
    obtain ⟨i, x, rfl⟩ := len2 hxs
    have hu := hu_of hr
    have k : Post CN CL H ad d (.setCost i x) Q := k
    obtain ⟨dx, hnw⟩ := id N.c.nw
    refine ⟨_, (pss_cons (ps_if (pt_not (pt_val (pe_meth (pv 0) T.clN c_Network_has_link.mt c_Network_has_link.ok (hr.mono (by decide)) c_Network_has_link.b .nil pass0 (pa_cons (pv 1) pa_nil))))
      (pss_one (ps_ret (pe_lst (pa_cons (pe_cst rfl T.c_NOT_THERE) pa_nil))))
      pss_nil)
      (pss_cons (ps_if (pt_not (pt_val (pe_call c_is_cost.ok (hr.mono (by decide)) (by rfl) c_is_cost.mg c_is_cost.kp c_is_cost.b .nil pass0 (pa_cons (pv 2) pa_nil))))
      (pss_one (ps_ret (pe_lst (pa_cons (pe_cst rfl T.c_OUT_OF_RANGE) pa_nil))))
      pss_nil)
      (pss_cons (ps_set (i := 3) sc_set_cost.nd rfl (Or.inl rfl) (pe_fld (pe_ix ix_list (pe_fld (pv 0) rfl) (pv 1) (fun _ _ => rfl)) rfl))
      (pss_cons (ps_fld (pe_ix ix_list (pe_fld (pv 0) rfl) (pv 1) (fun _ _ => rfl)) (pv 2) rfl)
      (pss_cons (ps_expr (pe_meth0 (pv 0) T.clN c_Network_forget.mt c_Network_forget.ok (hr.mono (by decide)) c_Network_forget.b .nil pass0))
      (pss_one (ps_ret (pe_lst (pa_cons (pv 3) pa_nil))))))))), ?_⟩
    refine ⟨_, rfl, ad.nw, dx, _, rfl, hnw, nF_has_link ad, _, rfl, ad, d, i, rfl, N.c, _, rfl, ?_⟩
    cases ca : Su200.hasLink d i with
    | false => exact iteT ⟨(by show 1 ≤ sizeLine; decide), fun p hp => fin_same k N (if_pos ca) (same_upd hp) hp upd_same rfl⟩
    | true =>
    refine iteF ?_
    have c1 : ¬ Su200.hasLink d i = false := by
      rw [ca]
      simp
    have hi : i < d.network.links.length := of_decide_eq_true ca
    -- if not is_cost(cost)
    refine ⟨_, rfl, x, rfl, _, rfl, ?_⟩
    by_cases cx : x = 0 ∨ 99 < x
    · rw [decide_eq_true cx]
      exact iteT ⟨(by show 1 ≤ sizeLine; decide), fun p hp => fin_same k N ((if_neg c1).trans (if_pos cx)) (same_upd hp) hp upd_same rfl⟩
    rw [decide_eq_false cx]
    refine iteF ?_
    obtain ⟨la, dl, g1, g2, g3⟩ := N.c.link hi
    -- previous = network.links[number].cost; network.links[number].cost = cost
    refine ⟨_, rfl, _, _, _, _, _, rfl, hnw, T.clN, T.nLinks, nF_links ad, _, rfl, _, _, _, _, rfl, rfl, SqL.of N.c.lks.lst, at_nat g2, _, _, _, _, _, rfl, g3, T.clL, T.nCost, lF_cost _, ?_⟩
    refine ⟨_, rfl, _, rfl, _, _, _, _, _, rfl, hnw, T.clN, T.nLinks, nF_links ad, _, rfl, _, _, _, _, rfl, rfl, SqL.of N.c.lks.lst, at_nat g2, la, CL, dl, _, rfl, g3, T.clL, T.nCost, (by show 4 < 1000; decide), ?_⟩
    have N1 := N.c.link_set g1 g3 (lF_put_cost (lnk d.network i) x)
    have W1 := wf_setLink (l := { lnk d.network i with cost := x }) O.wf hi rfl rfl (by simp only; omega)
    obtain ⟨f1, f2⟩ := fr_upd (o := .ins CL dl (putF "cost" (iV x) (lF (lnk d.network i)))) (Same.refl H) (own_core (ad := ad) (b := la) (.inr (.inr (.inr (.inr (List.mem_of_getElem? g1)))))) ⟨_, g3⟩
    obtain ⟨dx1, hnw1⟩ := id N1.nw
    refine ⟨_, rfl, ad.nw, dx1, _, rfl, hnw1, nF_forget ad, ad, _, rfl, N1, W1, fun H2 aT tas N2 kf hT ht => ?_⟩
    obtain ⟨dx2, hnw2⟩ := id N2.c.nw
    refine ⟨_, rfl, (by show 1 ≤ sizeLine; decide), fun p hp => ?_⟩
    have fr := fr_forget f1 f2 (fun b q => .inl (own_core q)) rfl kf hT ht
    exact fin_new k ((if_neg c1).trans (if_neg cx)) N2 rfl fr hp (fresh_after f2 kf hnw2 hp) rfl
end
end TB
end
section
namespace TB
open PySem PySem.Spec PyProof.Rows L2
theorem link_setUp {n : Net} {i : Nat} (hi : i < n.links.length) (b : Bool) : (Su200.setUp n i b).links.length = n.links.length := by
  unfold Su200.setUp
  rw [List.length_set]
theorem treeLinks_len (n : Net) : (Su200.treeLinks n).length ≤ n.links.length := by
  unfold Su200.treeLinks
  have := List.length_filter_le (Su200.isTreeLink n) (List.range n.links.length)
  rwa [List.length_range] at this
theorem sum_casts : ∀ l : List Nat, (l.map fun (x : Nat) => (x : Int)).sum = ((l.sum : Nat) : Int)
  | [] => rfl
  | x :: l => by
    rw [List.map_cons, List.sum_cons, List.sum_cons, sum_casts l]
    omega
section
variable {P : Program} {w : World} {K : PySem.W.Frag} {mg : Str → Option Value} {base : Heap} {CN CL tM : Addr}
/-! ### link_down, link_up -/
abbrev s_link_down : Stmt := topS 50
theorem sc_link_down : FnScope ["network", "number", "before"] ["network", "number"] (defScope s_link_down) := ⟨rfl, rfl, rfl, by decide +kernel, rfl, by decide +kernel, by decide +kernel⟩
def sp_link_down (K : PySem.W.Frag) (CN CL : Addr) : Sp := spOp CN CL 1 fun xs => .linkDown (xs.getD 0 0)
theorem ok_link_down {f : Addr} {fd : FuncData} (F : Fun K "link_down" "link_down" s_link_down f fd) (T : Txt K mg CN CL tM) {f_tree_links : Addr} {fd_tree_links : FuncData} (c_tree_links : Cal P w K mg base "tree_links" 7 ["ids", "links"] (sp_tree_links K CN CL) f_tree_links fd_tree_links) {f_Network_forget : Addr} {fd_Network_forget : FuncData} (c_Network_forget : CalM P w K mg base "forget" CN 1 ["self"] (sp_Network_forget K CN CL) f_Network_forget fd_Network_forget) {f_Network_has_link : Addr} {fd_Network_has_link : FuncData} (c_Network_has_link : CalM P w K mg base "has_link" CN 1 ["self", "link"] (sp_Network_has_link K CN CL) f_Network_has_link fd_Network_has_link) : FnOk P w K mg base CX0 8 f fd ["network", "number"] (sp_link_down K CN CL) := by
  refine F.ok sc_link_down (fun vs H Q E h => spOp.len h) (fun cdv A outer s H vs Q E hr h => ?_)
  · obtain ⟨ad, d, xs, rfl, hxs, N, O, k⟩ := h
    obtain ⟨i, rfl⟩ := len1 hxs
    have hu := hu_of hr
    have k : Post CN CL H ad d (.linkDown i) Q := k
    obtain ⟨dx, hnw⟩ := id N.c.nw
    refine ⟨_, (pss_cons (ps_if (pt_not (pt_val (pe_meth (pv 0) T.clN c_Network_has_link.mt c_Network_has_link.ok (hr.mono (by decide)) c_Network_has_link.b .nil pass0 (pa_cons (pv 1) pa_nil))))
      (pss_one (ps_ret (pe_lst (pa_cons (pe_cst rfl T.c_NOT_THERE) pa_nil))))
      pss_nil)
      (pss_cons (ps_if (pt_not (pt_val (pe_fld (pe_ix ix_list (pe_fld (pv 0) rfl) (pv 1) (fun _ _ => rfl)) rfl)))
      (pss_one (ps_ret (pe_lst (pa_cons (pe_cst rfl T.c_ALREADY_DOWN) pa_nil))))
      pss_nil)
      (pss_cons (ps_set (i := 2) sc_link_down.nd rfl (Or.inl rfl) (pe_call c_tree_links.ok (hr.mono (by decide)) (by rfl) c_tree_links.mg c_tree_links.kp c_tree_links.b .nil pass0 (pa_cons (pe_fld (pv 0) rfl) (pa_cons (pe_fld (pv 0) rfl) pa_nil))))
      (pss_cons (ps_fld (pe_ix ix_list (pe_fld (pv 0) rfl) (pv 1) (fun _ _ => rfl)) pe_bl rfl)
      (pss_cons (ps_expr (pe_meth0 (pv 0) T.clN c_Network_forget.mt c_Network_forget.ok (hr.mono (by decide)) c_Network_forget.b .nil pass0))
      (pss_one (ps_ret (pe_lst (pa_cons (pe_callB call_len_seq (by rfl) T.nLen PySem.boot_len (pa_cons (pe_call c_tree_links.ok (hr.mono (by decide)) (by rfl) c_tree_links.mg c_tree_links.kp c_tree_links.b .nil pass0 (pa_cons (pe_fld (pv 0) rfl) (pa_cons (pe_fld (pv 0) rfl) pa_nil))) pa_nil)) (pa_cons (pe_callTy call_int1 (by rfl) T.nInt (by decide +kernel) (pa_cons (pe_cmpR op_in_seq (pv 1) (pv 2) (by rfl)) pa_nil)) pa_nil)))))))))), ?_⟩
    refine ⟨_, rfl, ad.nw, dx, _, rfl, hnw, nF_has_link ad, _, rfl, ad, d, i, rfl, N.c, _, rfl, ?_⟩
    cases ca : Su200.hasLink d i with
    | false => exact iteT ⟨(by show 1 ≤ sizeLine; decide), fun p hp => fin_same k N (if_pos ca) (same_upd hp) hp upd_same rfl⟩
    | true =>
    refine iteF ?_
    have c1 : ¬ Su200.hasLink d i = false := by
      rw [ca]
      simp
    have hi : i < d.network.links.length := of_decide_eq_true ca
    obtain ⟨la, dl, g1, g2, g3⟩ := N.c.link hi
    -- if not network.links[number].is_up
    refine ⟨_, rfl, _, _, _, _, _, rfl, hnw, T.clN, T.nLinks, nF_links ad, _, rfl, _, _, _, _, rfl, rfl, SqL.of N.c.lks.lst, at_nat g2, _, _, _, _, _, rfl, g3, T.clL, T.nUp, lF_up _, _, rfl, ?_⟩
    cases cu : (lnk d.network i).up with
    | false => exact iteT ⟨(by show 1 ≤ sizeLine; decide), fun p hp => fin_same k N ((if_neg c1).trans (if_pos cu)) (same_upd hp) hp upd_same rfl⟩
    | true =>
    refine iteF ?_
    have c2 : ¬ (Su200.link d.network i).up = false := fun q => by
      rw [show (Su200.link d.network i).up = true from cu] at q
      cases q
    -- before = tree_links(network.ids, network.links)
    refine ⟨_, rfl, _, _, _, _, _, rfl, hnw, T.clN, T.nIds, nF_ids ad, _, rfl, _, _, _, _, _, rfl, hnw, T.clN, T.nLinks, nF_links ad, ad.aI, ad.aL, d.network, rfl, NetAt.rd N.c O.wf, fun Hb pb hpb Mb => ?_⟩
    have Nb := N.same Mb.same
    have g3b := Mb.same _ _ g3
    have hnwb := Mb.same _ _ hnw
    -- network.links[number].is_up = False
    refine ⟨_, rfl, _, _, _, _, _, rfl, hnwb, T.clN, T.nLinks, nF_links ad, _, rfl, _, _, _, _, rfl, rfl, SqL.of Nb.c.lks.lst, at_nat g2, la, CL, dl, _, rfl, g3b, T.clL, T.nUp, (by show 4 < 1000; decide), ?_⟩
    have N1 := Nb.c.link_set g1 g3b (lF_put_up (lnk d.network i) false)
    have W1 : WF (Su200.setUp d.network i false) := wf_setUp O.wf hi false
    obtain ⟨f1, f2⟩ := fr_upd (o := .ins CL dl (putF "is_up" (.bl false) (lF (lnk d.network i)))) Mb.same (own_core (ad := ad) (b := la) (.inr (.inr (.inr (.inr (List.mem_of_getElem? g1)))))) ⟨_, g3⟩
    obtain ⟨dx1, hnw1⟩ := id N1.nw
    have hb1 : (upd Hb la (.ins CL dl (putF "is_up" (.bl false) (lF (lnk d.network i))))) pb = some (.lst (nV (Su200.treeLinks d.network))) := by
      rw [upd_ne (ne_of Mb.at_ g3b (by intro z; cases z))]
      exact Mb.at_
    refine ⟨_, rfl, ad.nw, dx1, _, rfl, hnw1, nF_forget ad, ad, _, rfl, N1, W1, fun H2 aT tas N2 kf hT ht => ?_⟩
    obtain ⟨dx2, hnw2⟩ := id N2.c.nw
    have hb2 := kf _ _ hb1 (ne_of_none hnw hpb).symm
    -- return [len(tree_links(..)), int(number in before)]
    refine ⟨_, rfl, _, _, _, _, _, rfl, hnw2, T.clN, T.nIds, nF_ids _, _, rfl, _, _, _, _, _, rfl, hnw2, T.clN, T.nLinks, nF_links _, ad.aI, ad.aL, Su200.setUp d.network i false, rfl, NetAt.rd N2.c W1, fun H3 p3 hp3 M3 => ?_⟩
    refine ⟨_, _, rfl, .inl (SqL.of M3.at_), ?_⟩
    refine ⟨_, rfl, _, rfl, pb, _, rfl, .inl (SqL.of (M3.same _ _ hb2)), rfl, flat_nV _, .inr ⟨_, rfl, (by show 2 ≤ sizeLine; decide), fun p hp => ?_⟩⟩
    have fr := fr_forget f1 f2 (fun b q => .inl (own_core q)) rfl kf hT ht
    have fr3 : Fr H H3 ad { ad with aT := aT, tas := tas } := ⟨fun b o e q => M3.same _ _ (fr.keep b o e q), fr.new⟩
    have hp0 : H p = none := fresh_after f2 kf hnw2 (M3.same.free hp)
    refine fin_new k ((if_neg c1).trans (if_neg c2)) (N2.same M3.same) rfl fr3 hp hp0 ?_
    show [V.int ((nV (Su200.treeLinks (Su200.setUp d.network i false))).length : Int), V.int (if inV (iV i) (nV (Su200.treeLinks d.network)) = true then 1 else 0)] = [iV (Su200.treeLinks (Su200.setUp d.network i false)).length, iV (Su200.boolToNat (Su200.isTreeLink d.network i))]
    rw [nV_len, inV_nV, contains_tree, int_bool]
    rfl
abbrev s_link_up : Stmt := topS 51
theorem sc_link_up : FnScope ["network", "number", "after"] ["network", "number"] (defScope s_link_up) := ⟨rfl, rfl, rfl, by decide +kernel, rfl, by decide +kernel, by decide +kernel⟩
def sp_link_up (K : PySem.W.Frag) (CN CL : Addr) : Sp := spOp CN CL 1 fun xs => .linkUp (xs.getD 0 0)
theorem ok_link_up {f : Addr} {fd : FuncData} (F : Fun K "link_up" "link_up" s_link_up f fd) (T : Txt K mg CN CL tM) {f_Network_forget : Addr} {fd_Network_forget : FuncData} (c_Network_forget : CalM P w K mg base "forget" CN 1 ["self"] (sp_Network_forget K CN CL) f_Network_forget fd_Network_forget) {f_tree_links : Addr} {fd_tree_links : FuncData} (c_tree_links : Cal P w K mg base "tree_links" 7 ["ids", "links"] (sp_tree_links K CN CL) f_tree_links fd_tree_links) {f_Network_has_link : Addr} {fd_Network_has_link : FuncData} (c_Network_has_link : CalM P w K mg base "has_link" CN 1 ["self", "link"] (sp_Network_has_link K CN CL) f_Network_has_link fd_Network_has_link) : FnOk P w K mg base CX0 8 f fd ["network", "number"] (sp_link_up K CN CL) := by
  refine F.ok sc_link_up (fun vs H Q E h => spOp.len h) (fun cdv A outer s H vs Q E hr h => ?_)
  · obtain ⟨ad, d, xs, rfl, hxs, N, O, k⟩ := h
    obtain ⟨i, rfl⟩ := len1 hxs
    have hu := hu_of hr
    have k : Post CN CL H ad d (.linkUp i) Q := k
    obtain ⟨dx, hnw⟩ := id N.c.nw
    refine ⟨_, (pss_cons (ps_if (pt_not (pt_val (pe_meth (pv 0) T.clN c_Network_has_link.mt c_Network_has_link.ok (hr.mono (by decide)) c_Network_has_link.b .nil pass0 (pa_cons (pv 1) pa_nil))))
      (pss_one (ps_ret (pe_lst (pa_cons (pe_cst rfl T.c_NOT_THERE) pa_nil))))
      pss_nil)
      (pss_cons (ps_if (pt_val (pe_fld (pe_ix ix_list (pe_fld (pv 0) rfl) (pv 1) (fun _ _ => rfl)) rfl))
      (pss_one (ps_ret (pe_lst (pa_cons (pe_cst rfl T.c_IN_USE) pa_nil))))
      pss_nil)
      (pss_cons (ps_fld (pe_ix ix_list (pe_fld (pv 0) rfl) (pv 1) (fun _ _ => rfl)) pe_bl rfl)
      (pss_cons (ps_expr (pe_meth0 (pv 0) T.clN c_Network_forget.mt c_Network_forget.ok (hr.mono (by decide)) c_Network_forget.b .nil pass0))
      (pss_cons (ps_set (i := 2) sc_link_up.nd rfl (Or.inl rfl) (pe_call c_tree_links.ok (hr.mono (by decide)) (by rfl) c_tree_links.mg c_tree_links.kp c_tree_links.b .nil pass0 (pa_cons (pe_fld (pv 0) rfl) (pa_cons (pe_fld (pv 0) rfl) pa_nil))))
      (pss_one (ps_ret (pe_lst (pa_cons (pe_callB call_len_seq (by rfl) T.nLen PySem.boot_len (pa_cons (pv 2) pa_nil)) (pa_cons (pe_callTy call_int1 (by rfl) T.nInt (by decide +kernel) (pa_cons (pe_cmpR op_in_seq (pv 1) (pv 2) (by rfl)) pa_nil)) pa_nil)))))))))), ?_⟩
    refine ⟨_, rfl, ad.nw, dx, _, rfl, hnw, nF_has_link ad, _, rfl, ad, d, i, rfl, N.c, _, rfl, ?_⟩
    cases ca : Su200.hasLink d i with
    | false => exact iteT ⟨(by show 1 ≤ sizeLine; decide), fun p hp => fin_same k N (if_pos ca) (same_upd hp) hp upd_same rfl⟩
    | true =>
    refine iteF ?_
    have c1 : ¬ Su200.hasLink d i = false := by
      rw [ca]
      simp
    have hi : i < d.network.links.length := of_decide_eq_true ca
    obtain ⟨la, dl, g1, g2, g3⟩ := N.c.link hi
    -- if network.links[number].is_up
    refine ⟨_, rfl, _, _, _, _, _, rfl, hnw, T.clN, T.nLinks, nF_links ad, _, rfl, _, _, _, _, rfl, rfl, SqL.of N.c.lks.lst, at_nat g2, _, _, _, _, _, rfl, g3, T.clL, T.nUp, lF_up _, _, rfl, ?_⟩
    cases cu : (lnk d.network i).up with
    | true => exact iteT ⟨(by show 1 ≤ sizeLine; decide), fun p hp => fin_same k N ((if_neg c1).trans (if_pos cu)) (same_upd hp) hp upd_same rfl⟩
    | false =>
    refine iteF ?_
    have c2 : ¬ (Su200.link d.network i).up = true := fun q => by
      rw [show (Su200.link d.network i).up = false from cu] at q
      cases q
    -- network.links[number].is_up = True
    refine ⟨_, rfl, _, _, _, _, _, rfl, hnw, T.clN, T.nLinks, nF_links ad, _, rfl, _, _, _, _, rfl, rfl, SqL.of N.c.lks.lst, at_nat g2, la, CL, dl, _, rfl, g3, T.clL, T.nUp, (by show 4 < 1000; decide), ?_⟩
    have N1 := N.c.link_set g1 g3 (lF_put_up (lnk d.network i) true)
    have W1 : WF (Su200.setUp d.network i true) := wf_setUp O.wf hi true
    obtain ⟨f1, f2⟩ := fr_upd (o := .ins CL dl (putF "is_up" (.bl true) (lF (lnk d.network i)))) (Same.refl H) (own_core (ad := ad) (b := la) (.inr (.inr (.inr (.inr (List.mem_of_getElem? g1)))))) ⟨_, g3⟩
    obtain ⟨dx1, hnw1⟩ := id N1.nw
    refine ⟨_, rfl, ad.nw, dx1, _, rfl, hnw1, nF_forget ad, ad, _, rfl, N1, W1, fun H2 aT tas N2 kf hT ht => ?_⟩
    obtain ⟨dx2, hnw2⟩ := id N2.c.nw
    -- after = tree_links(network.ids, network.links)
    refine ⟨_, rfl, _, _, _, _, _, rfl, hnw2, T.clN, T.nIds, nF_ids _, _, rfl, _, _, _, _, _, rfl, hnw2, T.clN, T.nLinks, nF_links _, ad.aI, ad.aL, Su200.setUp d.network i true, rfl, NetAt.rd N2.c W1, fun H3 p3 hp3 M3 => ?_⟩
    refine ⟨_, rfl, _, _, rfl, .inl (SqL.of M3.at_), ?_⟩
    refine ⟨_, rfl, _, rfl, p3, _, rfl, .inl (SqL.of M3.at_), rfl, flat_nV _, .inr ⟨_, rfl, (by show 2 ≤ sizeLine; decide), fun p hp => ?_⟩⟩
    have fr := fr_forget f1 f2 (fun b q => .inl (own_core q)) rfl kf hT ht
    have fr3 : Fr H H3 ad { ad with aT := aT, tas := tas } := ⟨fun b o e q => M3.same _ _ (fr.keep b o e q), fr.new⟩
    have hp0 : H p = none := fresh_after f2 kf hnw2 (M3.same.free hp)
    refine fin_new k ((if_neg c1).trans (if_neg c2)) (N2.same M3.same) rfl fr3 hp hp0 ?_
    show [V.int ((nV (Su200.treeLinks (Su200.setUp d.network i true))).length : Int), V.int (if inV (iV i) (nV (Su200.treeLinks (Su200.setUp d.network i true))) = true then 1 else 0)] = [iV (Su200.treeLinks (Su200.setUp d.network i true)).length, iV (Su200.boolToNat (Su200.isTreeLink (Su200.setUp d.network i true) i))]
    rw [nV_len, inV_nV, contains_tree, int_bool]
    rfl
/-! ### place_host -/
abbrev s_place_host : Stmt := topS 54
theorem sc_place_host : FnScope ["network", "host", "bridge", "previous"] ["network", "host", "bridge"] (defScope s_place_host) := ⟨rfl, rfl, rfl, by decide +kernel, rfl, by decide +kernel, by decide +kernel⟩
def sp_place_host (K : PySem.W.Frag) (CN CL : Addr) : Sp := spOp CN CL 2 fun xs => .placeHost (xs.getD 0 0) (xs.getD 1 0)
theorem ok_place_host {f : Addr} {fd : FuncData} (F : Fun K "place_host" "place_host" s_place_host f fd) (T : Txt K mg CN CL tM) {f_Network_has_bridge : Addr} {fd_Network_has_bridge : FuncData} (c_Network_has_bridge : CalM P w K mg base "has_bridge" CN 1 ["self", "bridge"] (sp_Network_has_bridge K CN CL) f_Network_has_bridge fd_Network_has_bridge) : FnOk P w K mg base CX0 2 f fd ["network", "host", "bridge"] (sp_place_host K CN CL) := by
  refine F.ok sc_place_host (fun vs H Q E h => spOp.len h) (fun cdv A outer s H vs Q E hr h => ?_)
  · obtain ⟨ad, d, xs, rfl, hxs, N, O, k⟩ := h
    obtain ⟨x, v, rfl⟩ := len2 hxs
    have hu := hu_of hr
    have k : Post CN CL H ad d (.placeHost x v) Q := k
    obtain ⟨dx, hnw⟩ := id N.c.nw
    obtain ⟨kvs, hH, HK⟩ := id N.c.hosts
    refine ⟨_, (pss_cons (ps_if (pt_not (pt_val (pe_meth (pv 0) T.clN c_Network_has_bridge.mt c_Network_has_bridge.ok (hr.mono (by decide)) c_Network_has_bridge.b .nil pass0 (pa_cons (pv 2) pa_nil))))
      (pss_one (ps_ret (pe_lst (pa_cons (pe_cst rfl T.c_NOT_THERE) pa_nil))))
      pss_nil)
      (pss_cons (ps_if (pt_cmpR op_gt (pv 1) (pe_cst rfl T.c_MOST_HOST) (nomark _))
      (pss_one (ps_ret (pe_lst (pa_cons (pe_cst rfl T.c_OUT_OF_RANGE) pa_nil))))
      pss_nil)
      (pss_cons (ps_set (i := 3) sc_place_host.nd rfl (Or.inl rfl) (pe_ifExp (pt_cmp (pc_din hu (pv 1) (pe_fld (pv 0) rfl))) (pe_op op_add (pe_dget hu (pe_fld (pv 0) rfl) (pv 1) (fun _ _ => rfl)) pe_int) pe_int))
      (pss_cons (ps_dput hu (pe_fld (pv 0) rfl) (pv 1) (pv 2) rfl)
      (pss_one (ps_ret (pe_lst (pa_cons (pv 3) pa_nil)))))))), ?_⟩
    refine ⟨_, rfl, ad.nw, dx, _, rfl, hnw, nF_has_bridge ad, _, rfl, ad, d, v, rfl, N.c, _, rfl, ?_⟩
    cases ca : Su200.hasBridge d v with
    | false => exact iteT ⟨(by show 1 ≤ sizeLine; decide), fun p hp => fin_same k N (if_pos ca) (same_upd hp) hp upd_same rfl⟩
    | true =>
    refine iteF ?_
    have c1 : ¬ Su200.hasBridge d v = false := by
      rw [ca]
      simp
    -- if host > MOST_HOST
    refine ⟨_, rfl, _, _, rfl, rfl, _, rfl, ?_⟩
    refine ite2 (fun c => ?_) (fun c => ?_)
    · have c := of_decide_eq_true c
      refine ⟨(by show 1 ≤ sizeLine; decide), fun p hp => fin_same k N ((if_neg c1).trans (if_pos (by omega))) (same_upd hp) hp upd_same rfl⟩
    have c := of_decide_eq_false (Bool.eq_false_iff.mpr c)
    have c : ¬ 99 < x := by omega
    have hlen : kvs.length ≤ 100 := by
      rw [HK.len]
      exact hosts_len O.hosts
    have store : ∀ (H1 : Hp) (prev : Nat), H1 = H → prev = (match Su200.hostBridge d x with
        | none => 0
        | some w => w + 1) → (sDPut (tFld K (tVar 0) "hosts") (tVar 1) (tVar 2)) { nx := tRet (tLst (tCons (tVar 3) tNil)) { nx := fun x H' => Q V.non H', rt := Q }, rt := Q } [some (.ref ad.nw), some (iV x), some (iV v), some (iV prev)] H1 := by
      rintro H1 prev rfl hprev
      refine ⟨_, rfl, _, rfl, _, _, _, _, _, rfl, hnw, T.clN, T.nHosts, nF_hosts ad, _, rfl, ad.aH, _, rfl, DPut.k (k := Sum.inl (x : Int)) hH (small_of (m := 100) hlen), ?_⟩
      refine ⟨_, rfl, (by show 1 ≤ sizeLine; decide), fun p hp => ?_⟩
      have kp : ∀ {c : Addr} {o : HO}, H1 c = some o → (∀ q, o ≠ .dK q) → (upd H1 ad.aH (.dK (putK kvs (Sum.inl (x : Int)) (iV v)))) c = some o := fun {c o} e q => by
        rw [upd_ne (ne_of e hH fun z => q _ z)]
        exact e
      have N1 : NetAt CN CL (upd H1 ad.aH (.dK (putK kvs (Sum.inl (x : Int)) (iV v)))) ad { d with hosts := place d.hosts x v } := by
        refine ⟨⟨⟨dx, kp hnw (by intro _ q; cases q)⟩, kp N.c.ids (by intro _ q; cases q), ⟨kp N.c.lks.lst (by intro _ q; cases q), N.c.lks.each.mono fun c l _ r => r.imp fun d' q => kp q (by intro _ q; cases q)⟩, N.c.lnd, ⟨_, upd_same, fun h => ?_, ?_⟩, N.c.dIL, N.c.dN⟩,
          ⟨kp N.tabs.lst (by intro _ q; cases q), N.tabs.nd, N.tabs.each.mono fun ta v' hta r => ?_⟩, N.dIT, N.dLT, N.dH⟩
        · rw [valV_put, host_place]
          by_cases q : h = x
          · rw [if_pos (by rw [q]), if_pos q]
            rfl
          · rw [if_neg (show ¬ (Sum.inl (h : Int) : Key) = Sum.inl (x : Int) from fun z => q (Int.ofNat.inj (Sum.inl.inj z))), if_neg q]
            exact HK.get h
        · rw [place_len O.hosts]
          have hs := HK.get x
          by_cases q : (hostOf d.hosts x).isSome = true
          · have hs2 : (valV kvs (Sum.inl (x : Int))).isSome = true := by
              rw [hs, Option.isSome_map]
              exact q
            rw [if_pos q]
            unfold putK
            rw [valV_any, hs2, if_pos rfl, List.length_map]
            exact HK.len
          · have q' : (hostOf d.hosts x).isSome = false := by simpa using q
            have hs2 : (valV kvs (Sum.inl (x : Int))).isSome = false := by
              rw [hs, Option.isSome_map]
              exact q'
            rw [if_neg q, TB.putK_new hs2, List.length_append, HK.len]
            rfl
        · obtain ⟨kv2, r1, r2⟩ := r
          refine ⟨kv2, ?_, ⟨r2.get, r2.len⟩⟩
          rw [upd_ne fun z => N.dH (by rw [← z]; exact hta)]
          exact r1
      obtain ⟨f1, f2⟩ := fr_upd (o := .dK (putK kvs (Sum.inl (x : Int)) (iV v))) (Same.refl H1) (own_core (ad := ad) (b := ad.aH) (.inr (.inr (.inr (.inl rfl))))) ⟨_, hH⟩
      refine fin_new k ((if_neg c1).trans (if_neg c)) N1 rfl ⟨f1, fun b q => .inl q⟩ hp (f2 p hp) ?_
      rw [hprev]
      rfl
    -- previous = .. if host in network.hosts else 0
    refine ⟨_, rfl, _, rfl, _, _, _, _, _, rfl, hnw, T.clN, T.nHosts, nF_hosts ad, ad.aH, _, rfl, DGet.k (k := Sum.inl (x : Int)) hH, _, rfl, ?_⟩
    have hg := HK.get x
    cases cb : hostOf d.hosts x with
    | none =>
      rw [cb] at hg
      rw [hg]
      refine iteF ?_
      refine store H 0 rfl ?_
      rw [hostBridge_eq, cb]
    | some b =>
      rw [cb] at hg
      rw [hg]
      refine iteT ?_
      refine ⟨_, rfl, _, _, _, _, _, rfl, hnw, T.clN, T.nHosts, nF_hosts ad, _, rfl, ad.aH, iV b, rfl, by
        have z := DGet.k (k := Sum.inl (x : Int)) hH
        rw [hg] at z
        exact z, _, _, rfl, rfl, ?_⟩
      refine store H (b + 1) rfl ?_
      rw [hostBridge_eq, cb]
/-! ### flush_tables -/
abbrev s_flush_tables : Stmt := topS 56
theorem sc_flush_tables : FnScope ["network", "many", "table"] ["network"] (defScope s_flush_tables) := ⟨rfl, rfl, rfl, by decide +kernel, rfl, by decide +kernel, by decide +kernel⟩
def sp_flush_tables (K : PySem.W.Frag) (CN CL : Addr) : Sp := spOp CN CL 0 fun _ => .flushTables
theorem ok_flush_tables {f : Addr} {fd : FuncData} (F : Fun K "flush_tables" "flush_tables" s_flush_tables f fd) (T : Txt K mg CN CL tM) {f_Network_forget : Addr} {fd_Network_forget : FuncData} (c_Network_forget : CalM P w K mg base "forget" CN 1 ["self"] (sp_Network_forget K CN CL) f_Network_forget fd_Network_forget) : FnOk P w K mg base CX0 2 f fd ["network"] (sp_flush_tables K CN CL) := by
  refine F.ok sc_flush_tables (fun vs H Q E h => spOp.len h) (fun cdv A outer s H vs Q E hr h => ?_)
  · obtain ⟨ad, d, xs, rfl, hxs, N, O, k⟩ := h
    obtain rfl := len0 hxs
    have hu := hu_of hr
    have k : Post CN CL H ad d .flushTables Q := k
    obtain ⟨dx, hnw⟩ := id N.c.nw
    have hle := O.wf.idsLe
    have htl : ad.tas.length = d.network.bridgeIds.length := by
      have := N.tabs.each.len
      rwa [List.length_range] at this
    refine ⟨_, (pss_cons (ps_set (i := 1) sc_flush_tables.nd rfl (Or.inl rfl) (pe_callB (cr_sum rfl) (by rfl) T.nSum (by decide +kernel) (pa_cons (pe_lc (own := [("table", 2)]) (g := gName 2) rfl sc_flush_tables.nd (pi_list (pe_fld (pv 0) rfl)) (blkOk_by (N := ["network", "many", "table"]) (sc := defScope s_flush_tables) (by decide +kernel)) (fun _ _ _ _ _ => (pg_name (i := 2) sc_flush_tables.nd rfl (Or.inl rfl))) (fun _ _ _ _ _ => pts_nil) (fun _ _ _ _ _ => (pe_callB call_lenD (by rfl) T.nLen PySem.boot_len (pa_cons (pv 2) pa_nil)))) pa_nil)))
      (pss_cons (ps_expr (pe_meth0 (pv 0) T.clN c_Network_forget.mt c_Network_forget.ok (hr.mono (by decide)) c_Network_forget.b .nil pass0))
      (pss_one (ps_ret (pe_lst (pa_cons (pv 1) pa_nil)))))), ?_⟩
    refine ⟨_, rfl, _, _, _, _, _, rfl, hnw, T.clN, T.nTables, nF_tables ad, ad.aT, rfl, ⟨_, SqL.of N.tabs.lst⟩, fun D hD => ?_⟩
    refine lc_list (K := K) (a := ad.aT) (xs := ad.tas.map V.ref) (fun i H' => Made H D (nV ((List.range i).map (cnt d.learned))) H') (Made.start hD) (fun i H' _ M => SqL.of (M.same _ _ N.tabs.lst)) (fun i x H' hx M => ?_) (fun H2 M => ?_)
    · have hi : i < d.network.bridgeIds.length := by
        have := (List.getElem?_eq_some_iff.mp hx).1
        rw [List.length_map, htl] at this
        exact this
      obtain ⟨ta, kvs, t1, t2, t3, t4⟩ := N.tabs.get hi
      have ex : x = .ref ta := Option.some.inj (hx.symm.trans t2)
      subst ex
      refine ⟨rfl, yes_of ?_⟩
      refine ⟨_, rfl, ta, kvs, rfl, M.same _ _ t3, ?_⟩
      refine M.snoc hD (by rw [nV_len, List.length_map, List.length_range]; omega) ?_
      rw [range_map_more, nV_app, t4.len]
      rfl
    · rw [List.length_map, htl] at M
      have N1 := N.same M.same
      obtain ⟨dx1, hnw1⟩ := id N1.c.nw
      refine ⟨D, (((List.range d.network.bridgeIds.length).map (cnt d.learned)).map fun (x : Nat) => (x : Int)), rfl, by
        have z := M.at_
        rw [nV_eq] at z
        exact SqL.of z, ?_⟩
      rw [sum_casts, cnt_sum fun y hy => (O.learned.lt y hy).1]
      refine ⟨_, rfl, ad.nw, dx1, _, rfl, hnw1, nF_forget ad, ad, d, rfl, N1.c, O.wf, fun H3 aT tas N2 kf hT ht => ?_⟩
      obtain ⟨dx2, hnw2⟩ := id N2.c.nw
      refine ⟨_, rfl, (by show 1 ≤ sizeLine; decide), fun p hp => ?_⟩
      have fr := fr_forget (ad1 := ad) (H1 := H2) (fun b o e _ => M.same b o e) (fun b e => M.same.free e) (fun b q => .inl (own_core q)) rfl kf hT ht
      exact fin_new k rfl N2 rfl fr hp (fresh_after (fun b e => M.same.free e) kf hnw2 hp) rfl
end
end TB
end
section
namespace TB
open PySem PySem.Spec PyProof.Rows L2
theorem flat_more {α : Type} (f : α → List Nat) {l : List α} {i : Nat} {x : α} (h : l[i]? = some x) : (l.take (i + 1)).flatMap f = (l.take i).flatMap f ++ f x := by
  rw [take_more h, List.flatMap_append]
  simp
theorem flat_len {α : Type} (f : α → List Nat) (c : Nat) (h : ∀ x, (f x).length = c) : ∀ l : List α, (l.flatMap f).length = l.length * c
  | [] => by simp
  | x :: l => by
    rw [List.flatMap_cons, List.length_append, h, flat_len f c h l, List.length_cons, Nat.add_mul, Nat.one_mul, Nat.add_comm]
/-- one extend of a list in the making -/
theorem Made.ext {H0 H H1 : Hp} {D p : Addr} {xs zs ys : List V} (M : Made H0 D xs H) (hD : H0 D = none) (s : Same H H1) (hp : H1 p = some (.lst zs)) (e : ys = xs ++ zs) (hz : xs.length + zs.length ≤ 1000) :
    H1 D = some (.lst xs) ∧ xs.length + zs.length ≤ sizeLine ∧ Made H0 D ys (upd H1 D (.lst (xs ++ zs))) := by
  subst e
  exact ⟨s _ _ M.at_, size_of hz, (M.grow s).put hD _⟩
theorem TabsAt.not_tab {H : Hp} {aT : Addr} {tas : List Addr} {d : Lan} (TA : TabsAt H aT tas d) {b : Addr} {o : HO} (e : H b = some o) (hne : ∀ kvs, o ≠ .dK kvs) : b ∉ tas := fun hm => by
  obtain ⟨i, hi, e2⟩ := List.getElem_of_mem hm
  have h1 : tas[i]? = some b := by rw [List.getElem?_eq_getElem hi, e2]
  have hlen := TA.each.len
  rw [List.length_range] at hlen
  obtain ⟨kvs, k1, _⟩ := TA.each.at_ i b i h1 (List.getElem?_range (by omega))
  rw [e] at k1
  exact hne kvs (Option.some.inj k1)
section
variable {P : Program} {w : World} {K : PySem.W.Frag} {mg : Str → Option Value} {base : Heap} {CN CL tM : Addr}
/-! ### send_frame -/
abbrev s_send_frame : Stmt := topS 55
theorem sc_send_frame : FnScope ["network", "source", "destination", "tree", "visits", "found", "bridge", "via"] ["network", "source", "destination"] (defScope s_send_frame) := ⟨rfl, rfl, rfl, by decide +kernel, rfl, by decide +kernel, by decide +kernel⟩
def sp_send_frame (K : PySem.W.Frag) (CN CL : Addr) : Sp := spOp CN CL 2 fun xs => .sendFrame (xs.getD 0 0) (xs.getD 1 0)
def fOut (n : Net) (y : Nat × Nat) : List Nat := [y.1, Su200.linkCode n y.2]
theorem ok_send_frame {f : Addr} {fd : FuncData} (F : Fun K "send_frame" "send_frame" s_send_frame f fd) (T : Txt K mg CN CL tM) {f_tree_links : Addr} {fd_tree_links : FuncData} (c_tree_links : Cal P w K mg base "tree_links" 7 ["ids", "links"] (sp_tree_links K CN CL) f_tree_links fd_tree_links) {f_visits_of : Addr} {fd_visits_of : FuncData} (c_visits_of : Cal P w K mg base "visits_of" 4 ["links", "tree", "tables", "start", "destination"] (sp_visits_of K CN CL) f_visits_of fd_visits_of) {f_learn : Addr} {fd_learn : FuncData} (c_learn : Cal P w K mg base "learn" 1 ["tables", "visits", "source"] (sp_learn K CN CL) f_learn fd_learn) {f_link_code : Addr} {fd_link_code : FuncData} (c_link_code : Cal P w K mg base "link_code" 1 ["index"] (sp_link_code K CN CL) f_link_code fd_link_code) : FnOk P w K mg base CX0 8 f fd ["network", "source", "destination"] (sp_send_frame K CN CL) := by
  refine F.ok sc_send_frame (fun vs H Q E h => spOp.len h) (fun cdv A outer s H vs Q E hr h => ?_)
  · obtain ⟨ad, d, xs, rfl, hxs, N, O, k⟩ := h
    obtain ⟨x, y, rfl⟩ := len2 hxs
    have hu := hu_of hr
    have k : Post CN CL H ad d (.sendFrame x y) Q := k
    obtain ⟨dx, hnw⟩ := id N.c.nw
    obtain ⟨kvs, hH, HK⟩ := id N.c.hosts
    refine ⟨_, (pss_cons (ps_if (PW.pt (pw_or (pt_cmp (pc_dnotin hu (pv 1) (pe_fld (pv 0) rfl))) (pw_or1 (pt_cmp (pc_dnotin hu (pv 2) (pe_fld (pv 0) rfl))))))
      (pss_one (ps_ret (pe_lst (pa_cons (pe_cst rfl T.c_NOT_THERE) pa_nil))))
      pss_nil)
      (pss_cons (ps_set (i := 3) sc_send_frame.nd rfl (Or.inl rfl) (pe_call c_tree_links.ok (hr.mono (by decide)) (by rfl) c_tree_links.mg c_tree_links.kp c_tree_links.b .nil pass0 (pa_cons (pe_fld (pv 0) rfl) (pa_cons (pe_fld (pv 0) rfl) pa_nil))))
      (pss_cons (ps_set (i := 4) sc_send_frame.nd rfl (Or.inl rfl) (pe_call c_visits_of.ok (hr.mono (by decide)) (by rfl) c_visits_of.mg c_visits_of.kp c_visits_of.b .nil pass0 (pa_cons (pe_fld (pv 0) rfl) (pa_cons (pv 3) (pa_cons (pe_fld (pv 0) rfl) (pa_cons (pe_dget hu (pe_fld (pv 0) rfl) (pv 1) (fun _ _ => rfl)) (pa_cons (pv 2) pa_nil)))))))
      (pss_cons (ps_expr (pe_call c_learn.ok (hr.mono (by decide)) (by rfl) c_learn.mg c_learn.kp c_learn.b .nil pass0 (pa_cons (pe_fld (pv 0) rfl) (pa_cons (pv 4) (pa_cons (pv 1) pa_nil)))))
      (pss_cons (ps_set (i := 5) sc_send_frame.nd rfl (Or.inl rfl) (pe_lst (pa_cons (pe_callTy call_int1 (by rfl) T.nInt (by decide +kernel) (pa_cons (pe_cmpR op_in_seq (pe_dget hu (pe_fld (pv 0) rfl) (pv 2) (fun _ _ => rfl)) (pe_lc (own := [("bridge", 6), ("via", 7)]) (g := gTup K 2 (gCons (gName 6) (gCons (gName 7) gNil))) rfl sc_send_frame.nd (pi_list (pv 4)) (blkOk_by (N := ["network", "source", "destination", "tree", "visits", "found", "bridge", "via"]) (sc := defScope s_send_frame) (by decide +kernel)) (fun _ _ _ _ _ => (pg_tup rfl (pgs_cons (pg_name (i := 6) sc_send_frame.nd rfl (Or.inl rfl)) (pgs_cons (pg_name (i := 7) sc_send_frame.nd rfl (Or.inl rfl)) pgs_nil)))) (fun _ _ _ _ _ => pts_nil) (fun _ _ _ _ _ => (pv 6))) (by rfl)) pa_nil)) (pa_cons (pe_callB call_len_seq (by rfl) T.nLen PySem.boot_len (pa_cons (pv 4) pa_nil)) pa_nil))))
      (pss_cons (ps_for PassesOwn.never rfl (pi_list (pv 4)) (pg_tup rfl (pgs_cons (pg_name (i := 6) sc_send_frame.nd rfl (Or.inl rfl)) (pgs_cons (pg_name (i := 7) sc_send_frame.nd rfl (Or.inl rfl)) pgs_nil)))
      (pss_one (ps_expr (pe_bm PySem.F.plainAttrs_list PySem.F.slot_list_extend PySem.F.type_list_extend mt_extend (pv 5) (pa_cons (pe_lst (pa_cons (pv 6) (pa_cons (pe_call c_link_code.ok (hr.mono (by decide)) (by rfl) c_link_code.mg c_link_code.kp c_link_code.b .nil pass0 (pa_cons (pv 7) pa_nil)) pa_nil))) pa_nil)))))
      (pss_one (ps_ret (pv 5))))))))), ?_⟩
    -- if source not in network.hosts or destination not in network.hosts
    refine ⟨_, rfl, _, rfl, _, _, _, _, _, rfl, hnw, T.clN, T.nHosts, nF_hosts ad, ad.aH, _, rfl, DGet.k (k := Sum.inl (x : Int)) hH, _, rfl, ?_⟩
    have hgx := HK.get x
    have hgy := HK.get y
    cases cx : hostOf d.hosts x with
    | none =>
      rw [cx] at hgx
      rw [hgx]
      refine iteT (iteT ⟨(by show 1 ≤ sizeLine; decide), fun p hp => fin_same (r := Su200.error (-2)) k N ?_ (same_upd hp) hp upd_same rfl⟩)
      show (match Su200.hostBridge d x, Su200.hostBridge d y with
        | some v, some w => _
        | _, _ => _) = _
      rw [hostBridge_eq, cx]
    | some v =>
    rw [cx] at hgx
    rw [hgx]
    refine iteF ?_
    refine ⟨_, rfl, _, rfl, _, _, _, _, _, rfl, hnw, T.clN, T.nHosts, nF_hosts ad, ad.aH, _, rfl, DGet.k (k := Sum.inl (y : Int)) hH, _, rfl, ?_⟩
    cases cy : hostOf d.hosts y with
    | none =>
      rw [cy] at hgy
      rw [hgy]
      refine iteT ⟨(by show 1 ≤ sizeLine; decide), fun p hp => fin_same (r := Su200.error (-2)) k N ?_ (same_upd hp) hp upd_same rfl⟩
      show (match Su200.hostBridge d x, Su200.hostBridge d y with
        | some v, some w => _
        | _, _ => _) = _
      rw [hostBridge_eq, hostBridge_eq, cx, cy]
    | some w' =>
    rw [cy] at hgy
    rw [hgy]
    refine iteF ?_
    have hv := (hostOf_lt O.hosts cx).1
    have hx99 := (hostOf_lt O.hosts cx).2
    have ex : Su200.execute d (.sendFrame x y) = (Su200.learn d x (Su200.frameVisits d y v), Su200.ok (Su200.boolToNat ((Su200.frameVisits d y v).any fun z => z.1 == w')) ((Su200.frameVisits d y v).length :: (Su200.frameVisits d y v).flatMap (fOut d.network))) := by
      show (match Su200.hostBridge d x, Su200.hostBridge d y with
        | some v, some w => _
        | _, _ => _) = _
      rw [hostBridge_eq, hostBridge_eq, cx, cy]
      rfl
    -- tree
    refine ⟨_, rfl, _, _, _, _, _, rfl, hnw, T.clN, T.nIds, nF_ids ad, _, rfl, _, _, _, _, _, rfl, hnw, T.clN, T.nLinks, nF_links ad, ad.aI, ad.aL, d.network, rfl, NetAt.rd N.c O.wf, fun H1 p1 hp1 M1 => ?_⟩
    have N1 := N.same M1.same
    have hnw1 := M1.same _ _ hnw
    have hH1 := M1.same _ _ hH
    -- visits
    refine ⟨_, rfl, _, _, _, _, _, rfl, hnw1, T.clN, T.nLinks, nF_links ad, _, rfl, _, rfl, _, _, _, _, _, rfl, hnw1, T.clN, T.nTables, nF_tables ad, _, rfl, _, _, _, _, _, rfl, hnw1, T.clN, T.nHosts, nF_hosts ad, _, rfl, ad.aH, iV v, rfl, by
      have z := DGet.k (k := Sum.inl (x : Int)) hH1
      rw [hgx] at z
      exact z, _, rfl, ad.aL, p1, ad.aT, ad.tas, d, v, y, rfl, O.wf, (NetAt.rd N1.c O.wf).lnk, M1.at_, N1.tabs, hv, fun H2 p2 s2 RV => ?_⟩
    obtain ⟨_, _, _, hR7, hRlt⟩ := visits_loop O.wf (dest := y) hv
    generalize hR : Su200.frameVisits d y v = res at RV hR7 hRlt ex
    have N2 := N1.same s2
    have hnw2 := s2 _ _ hnw1
    -- learn(network.tables, visits, source)
    refine ⟨_, rfl, _, _, _, _, _, rfl, hnw2, T.clN, T.nTables, nF_tables ad, _, rfl, _, rfl, ad.aT, p2, ad.tas, d, x, res, rfl, N2.tabs, O.learned, hx99, RV, hRlt, fun H3 TA3 LO3 hk3 => ?_⟩
    have kp : ∀ {b : Addr} {o : HO}, H2 b = some o → (∀ q, o ≠ .dK q) → H3 b = some o := fun {b o} e q => by
      rw [hk3 b (N2.tabs.not_tab e q)]
      exact e
    obtain ⟨kvs2, hH2, HK2⟩ := N2.c.hosts
    have hH3 : H3 ad.aH = some (.dK kvs2) := by
      rw [hk3 _ N2.dH]
      exact hH2
    have N3 : NetAt CN CL H3 ad (Su200.learn d x res) := by
      refine ⟨⟨⟨dx, kp hnw2 (by intro _ q; cases q)⟩, kp N2.c.ids (by intro _ q; cases q), ⟨kp N2.c.lks.lst (by intro _ q; cases q), N2.c.lks.each.mono fun c l _ r => r.imp fun d' q => kp q (by intro _ q; cases q)⟩, N.c.lnd, ⟨kvs2, hH3, HK2⟩, N.c.dIL, N.c.dN⟩, TA3, N.dIT, N.dLT, N.dH⟩
    obtain ⟨vas, v1, v2⟩ := id RV
    have RV3 : RowsAt H3 p2 (res.map (vrow d.network)) := ⟨vas, kp v1 (by intro _ q; cases q), v2.mono fun b r _ q => kp q (by intro _ q; cases q)⟩
    have f3 : ∀ b o, H b = some o → ¬ ad.own b → H3 b = some o := fun b o e q => by
      rw [hk3 b fun z => q (.inr (.inr (.inr (.inr (.inr (.inr z))))))]
      exact s2 _ _ (M1.same _ _ e)
    have n3 : ∀ b, H3 b = none → H b = none := fun b e => by
      cases q : H b with
      | none => rfl
      | some o =>
        by_cases z : b ∈ ad.tas
        · have := each_some TA3.each (fun a x h => by obtain ⟨kvs, h, _⟩ := h; exact ⟨_, h⟩) z
          obtain ⟨u, hu⟩ := this
          rw [e] at hu
          cases hu
        · rw [hk3 b z, s2 _ _ (M1.same _ _ q)] at e
          cases e
    -- found = [int(network.hosts[destination] in [..]), len(visits)]
    have hnw3 := kp hnw2 (by intro _ q; cases q)
    have hg2 := HK2.get y
    rw [cy] at hg2
    refine ⟨_, rfl, _, _, _, _, _, rfl, hnw3, T.clN, T.nHosts, nF_hosts ad, _, rfl, ad.aH, iV w', rfl, by
      have z := DGet.k (k := Sum.inl (y : Int)) hH3
      rw [hg2] at z
      exact z, ?_⟩
    obtain ⟨vas3, u1, u2⟩ := id RV3
    refine ⟨_, rfl, _, rfl, ⟨_, SqL.of u1⟩, fun D hD => ?_⟩
    refine lc_list (K := K) (a := p2) (xs := vas3.map V.ref) (fun i H' => Made H3 D (nV ((res.take i).map Prod.fst)) H') (Made.start hD) (fun i H' _ M => SqL.of (M.same _ _ u1)) (fun i z H' hz M => ?_) (fun H4 M4 => ?_)
    · have hi : i < res.length := by
        have := (List.getElem?_eq_some_iff.mp hz).1
        rw [List.length_map, u2.len, List.length_map] at this
        exact this
      have hvi : res[i]? = some res[i] := List.getElem?_eq_getElem hi
      obtain ⟨va, q1, q2, q3⟩ := u2.get (i := i) (x := vrow d.network res[i]) (by rw [List.getElem?_map, hvi]; rfl)
      have ex : z = .ref va := Option.some.inj (hz.symm.trans q2)
      subst ex
      refine ⟨va, _, rfl, SqT.of (M.same _ _ q3), rfl, _, _, rfl, _, _, rfl, rfl, rfl, yes_of ?_⟩
      refine ⟨_, rfl, M.snoc hD (by rw [nV_len, List.length_map, List.length_take]; omega) ?_⟩
      rw [take_more hvi, List.map_append]
      unfold nV
      rw [List.map_append]
      rfl
    · rw [List.take_of_length_le (by rw [List.length_map, u2.len, List.length_map]; exact Nat.le_refl _)] at M4
      refine ⟨D, _, rfl, .inl (SqL.of M4.at_), rfl, flat_nV _, .inr ⟨_, rfl, ?_⟩⟩
      have u14 := M4.same _ _ u1
      refine ⟨_, rfl, _, _, rfl, .inl (SqL.of u14), (by show 2 ≤ sizeLine; decide), fun fo hfo => ?_⟩
      have ein : inV (iV w') (nV (res.map Prod.fst)) = res.any fun z => z.1 == w' := by
        rw [inV_nV, vs_contains]
      have elen : (vas3.map V.ref).length = res.length := by
        rw [List.length_map, u2.len, List.length_map]
      have M5 : Made H4 fo (nV (Su200.boolToNat (res.any fun z => z.1 == w') :: res.length :: (res.take 0).flatMap (fOut d.network))) (upd H4 fo (.lst [.int (if inV (iV w') (nV (res.map Prod.fst)) = true then 1 else 0), .int ((vas3.map V.ref).length : Int)])) := by
        rw [ein, elen, int_bool]
        exact ⟨same_upd hfo, upd_same⟩
      -- for bridge, via in visits
      have u15 := M5.same _ _ u14
      refine ⟨_, rfl, _, rfl, ⟨_, SqL.of u15⟩, ?_⟩
      refine for_list (K := K) (a := p2) (xs := vas3.map V.ref) (fun i σ H' => ∃ v6 v7, σ = [some (.ref ad.nw), some (iV x), some (iV y), some (.ref p1), some (.ref p2), some (.ref fo), v6, v7] ∧ Made H4 fo (nV (Su200.boolToNat (res.any fun z => z.1 == w') :: res.length :: (res.take i).flatMap (fOut d.network))) H')
        ⟨none, none, rfl, M5⟩ (fun i σ H' _ hP => ?_) (fun i z σ H' hz hP => ?_) (fun σ H' hP => ?_)
      · obtain ⟨_, _, _, M⟩ := hP
        exact SqL.of (M.same _ _ u14)
      · obtain ⟨v6, v7, rfl, M⟩ := hP
        have hi : i < res.length := by
          have := (List.getElem?_eq_some_iff.mp hz).1
          rw [List.length_map, u2.len, List.length_map] at this
          exact this
        have hvi : res[i]? = some res[i] := List.getElem?_eq_getElem hi
        obtain ⟨va, q1, q2, q3⟩ := u2.get (i := i) (x := vrow d.network res[i]) (by rw [List.getElem?_map, hvi]; rfl)
        have ez : z = .ref va := Option.some.inj (hz.symm.trans q2)
        subst ez
        refine ⟨va, _, rfl, SqT.of (M.same _ _ (M4.same _ _ q3)), rfl, _, _, rfl, _, _, rfl, rfl, ?_⟩
        refine ⟨_, rfl, .inl ⟨rfl, _, SqL.of M.at_⟩, _, rfl, _, rfl, d.network, res[i].2, rfl, (by show 2 ≤ sizeLine; decide), fun pn hpn => ?_⟩
        obtain ⟨e1, e2, e3⟩ := M.ext (ys := nV (Su200.boolToNat (res.any fun z => z.1 == w') :: res.length :: (res.take (i + 1)).flatMap (fOut d.network))) hfo (same_upd hpn) upd_same (by
          rw [flat_more (fOut d.network) hvi]
          exact (nV_app (Su200.boolToNat (res.any fun z => z.1 == w') :: res.length :: (res.take i).flatMap (fOut d.network)) (fOut d.network res[i]))) (by
          rw [nV_len, List.length_cons, List.length_cons, flat_len (fOut d.network) 2 (fun _ => rfl), List.length_take]
          show _ + 2 ≤ 1000
          omega)
        exact ⟨fo, pn, _, _, rfl, rfl, e1, upd_same, e2, _, _, rfl, e3⟩
      · obtain ⟨v6, v7, rfl, M⟩ := hP
        rw [List.take_of_length_le (by rw [List.length_map, u2.len, List.length_map]; exact Nat.le_refl _)] at M
        have s34 : Same H3 H' := M4.same.trans M.same
        have hfo3 : H3 fo = none := M4.same.free hfo
        refine ⟨_, rfl, ?_⟩
        have z := k H' ad fo
        rw [ex] at z
        refine z (N3.same s34) rfl ⟨fun b o e q => s34 _ _ (f3 b o e q), fun b q => .inl q⟩ (n3 _ hfo3) (N3.not_own hfo3) ?_
        rw [M.at_]
        rfl
end
end TB
end
section
namespace TB
open PySem PySem.Spec PyProof.Rows L2
def pOut (n : Net) (p : RP) : List Nat := [p.rootId, p.cost, Su200.linkCode n p.via]
/-- with a link down -/
theorem downed_eq {n : Net} {i : Nat} : downed n i = (Su200.setUp n i false).links := by
  unfold downed Su200.setUp
  apply List.ext_getElem?
  intro j
  rw [List.getElem?_map, List.getElem?_set]
  by_cases hj : j < n.links.length
  · rw [List.getElem?_range hj]
    by_cases c : i = j
    · subst c
      rw [if_pos rfl, if_pos hj]
      simp
    · rw [if_neg c, link_get hj]
      have : (j = i) = False := by
        rw [eq_iff_iff]
        exact ⟨fun q => c q.symm, False.elim⟩
      simp only [Option.map_some, this, decide_false, Bool.not_false, Bool.and_true]
  · rw [List.getElem?_eq_none (by rw [List.length_range]; omega)]
    by_cases c : i = j
    · subst c
      rw [if_pos rfl, if_neg hj]
      rfl
    · rw [if_neg c, List.getElem?_eq_none (by omega)]
      rfl
theorem entries_eq (d : Lan) (host : Nat) : ((List.range (Su200.bridgeCount d.network)).filterMap fun v => (Su200.tableEntry d v host).map fun i => (v, i)) =
    ((List.range (Su200.bridgeCount d.network)).filter fun v => (Su200.tableEntry d v host).isSome).map fun v => (v, (Su200.tableEntry d v host).getD 0) := by
  generalize List.range (Su200.bridgeCount d.network) = l
  induction l with
  | nil => rfl
  | cons v l ih =>
    cases e : Su200.tableEntry d v host with
    | none =>
      rw [List.filterMap_cons_none (by rw [e]; rfl), List.filter_cons_of_neg (by rw [e]; simp), ih]
    | some i =>
      rw [List.filterMap_cons_some (b := (v, i)) (by rw [e]; rfl), List.filter_cons_of_pos (by rw [e]; rfl), List.map_cons, e, ih]
      rfl
section
variable {P : Program} {w : World} {K : PySem.W.Frag} {mg : Str → Option Value} {base : Heap} {CN CL tM : Addr}
/-! ### path_fields -/
abbrev s_path_fields : Stmt := topS 58
theorem sc_path_fields : FnScope ["path"] ["path"] (defScope s_path_fields) := ⟨rfl, rfl, rfl, by decide +kernel, rfl, by decide +kernel, by decide +kernel⟩
def sp_path_fields (K : PySem.W.Frag) (CN CL : Addr) : Sp := fun vs H Q _ => ∃ (a : Addr) (n : Net) (p : RP), vs = [.ref a] ∧ PathAt n H a p ∧
  ∀ (H' : Hp) (q : Addr), H q = none → Made H q (nV (pOut n p)) H' → Q (.ref q) H'
theorem ok_path_fields {f : Addr} {fd : FuncData} (F : Fun K "path_fields" "path_fields" s_path_fields f fd) (T : Txt K mg CN CL tM) {f_link_code : Addr} {fd_link_code : FuncData} (c_link_code : Cal P w K mg base "link_code" 1 ["index"] (sp_link_code K CN CL) f_link_code fd_link_code) : FnOk P w K mg base CX0 2 f fd ["path"] (sp_path_fields K CN CL) := by
  refine F.ok sc_path_fields (fun vs H Q E h => ?_) (fun cdv A outer s H vs Q E hr h => ?_)
  · obtain ⟨a, n, p, rfl, _⟩ := h
    rfl
  · obtain ⟨a, n, p, rfl, hp, k⟩ := h
    have hu := hu_of hr
    have q4 : SqT K H a (zV (pT n.links.length p)) := SqT.of hp
    refine ⟨_, (pss_one (ps_ret (pe_lst (pa_cons (pe_ix ix_tup (pv 0) (pe_cst rfl T.c_ROOT_ID) (fun _ _ => rfl)) (pa_cons (pe_ix ix_tup (pv 0) (pe_cst rfl T.c_COST) (fun _ _ => rfl)) (pa_cons (pe_call c_link_code.ok (hr.mono (by decide)) (by rfl) c_link_code.mg c_link_code.kp c_link_code.b .nil pass0 (pa_cons (pe_ix ix_tup (pv 0) (pe_cst rfl T.c_VIA) (fun _ _ => rfl)) pa_nil)) pa_nil)))))), ?_⟩
    refine ⟨_, rfl, _, _, _, _, rfl, rfl, q4, at_nat (j := 0) rfl, ?_⟩
    refine ⟨_, rfl, _, _, _, _, rfl, rfl, q4, at_nat (j := 1) rfl, ?_⟩
    refine ⟨_, rfl, _, _, _, _, rfl, rfl, q4, at_nat (j := 3) rfl, n, p.via, rfl, (by show 3 ≤ sizeLine; decide), fun q hq => ?_⟩
    exact k _ _ hq ⟨same_upd hq, upd_same⟩
/-! ### root_paths_after -/
abbrev s_root_paths_after : Stmt := topS 59
theorem sc_root_paths_after : FnScope ["network", "rounds", "found", "path"] ["network", "rounds"] (defScope s_root_paths_after) := ⟨rfl, rfl, rfl, by decide +kernel, rfl, by decide +kernel, by decide +kernel⟩
def sp_root_paths_after (K : PySem.W.Frag) (CN CL : Addr) : Sp := spOp CN CL 1 fun xs => .rootPathsAfter (xs.getD 0 0)
theorem ok_root_paths_after {f : Addr} {fd : FuncData} (F : Fun K "root_paths_after" "root_paths_after" s_root_paths_after f fd) (T : Txt K mg CN CL tM) {f_paths_after : Addr} {fd_paths_after : FuncData} (c_paths_after : Cal P w K mg base "paths_after" 5 ["ids", "links", "rounds"] (sp_paths_after K CN CL) f_paths_after fd_paths_after) {f_path_fields : Addr} {fd_path_fields : FuncData} (c_path_fields : Cal P w K mg base "path_fields" 2 ["path"] (sp_path_fields K CN CL) f_path_fields fd_path_fields) : FnOk P w K mg base CX0 6 f fd ["network", "rounds"] (sp_root_paths_after K CN CL) := by
  refine F.ok sc_root_paths_after (fun vs H Q E h => spOp.len h) (fun cdv A outer s H vs Q E hr h => ?_)
  · obtain ⟨ad, d, xs, rfl, hxs, N, O, k⟩ := h
    obtain ⟨x, rfl⟩ := len1 hxs
    have hu := hu_of hr
    have k : Post CN CL H ad d (.rootPathsAfter x) Q := k
    obtain ⟨dx, hnw⟩ := id N.c.nw
    have hle := O.wf.idsLe
    refine ⟨_, (pss_cons (ps_if (pt_cmpR op_gt (pv 1) (pe_cst rfl T.c_MOST_ROUNDS) (nomark _))
      (pss_one (ps_ret (pe_lst (pa_cons (pe_cst rfl T.c_OUT_OF_RANGE) pa_nil))))
      pss_nil)
      (pss_cons (ps_set (i := 2) sc_root_paths_after.nd rfl (Or.inl rfl) (pe_lst (pa_cons (pe_callB call_len_seq (by rfl) T.nLen PySem.boot_len (pa_cons (pe_fld (pv 0) rfl) pa_nil)) pa_nil)))
      (pss_cons (ps_for PassesOwn.never rfl (pi_list (pe_call c_paths_after.ok (hr.mono (by decide)) (by rfl) c_paths_after.mg c_paths_after.kp c_paths_after.b .nil pass0 (pa_cons (pe_fld (pv 0) rfl) (pa_cons (pe_fld (pv 0) rfl) (pa_cons (pv 1) pa_nil))))) (pg_name (i := 3) sc_root_paths_after.nd rfl (Or.inl rfl))
      (pss_one (ps_expr (pe_bm PySem.F.plainAttrs_list PySem.F.slot_list_extend PySem.F.type_list_extend mt_extend (pv 2) (pa_cons (pe_call c_path_fields.ok (hr.mono (by decide)) (by rfl) c_path_fields.mg c_path_fields.kp c_path_fields.b .nil pass0 (pa_cons (pv 3) pa_nil)) pa_nil)))))
      (pss_one (ps_ret (pv 2)))))), ?_⟩
    refine ⟨_, rfl, _, _, rfl, rfl, _, rfl, ?_⟩
    refine ite2 (fun c => ?_) (fun c => ?_)
    · have c := of_decide_eq_true c
      refine ⟨(by show 1 ≤ sizeLine; decide), fun p hp => fin_same k N (if_pos (by omega)) (same_upd hp) hp upd_same rfl⟩
    have c := of_decide_eq_false (Bool.eq_false_iff.mpr c)
    have c : ¬ 20 < x := by omega
    -- found = [len(network.ids)]
    refine ⟨_, rfl, _, _, _, _, _, rfl, hnw, T.clN, T.nIds, nF_ids ad, _, _, rfl, .inl (SqL.of N.c.ids), (by show 1 ≤ sizeLine; decide), fun fo hfo => ?_⟩
    have M0 : Made H fo (nV (Su200.bridgeCount d.network :: ((pk d.network x).take 0).flatMap (pOut d.network))) (upd H fo (.lst [.int ((nV d.network.bridgeIds).length : Int)])) := by
      rw [nV_len]
      exact ⟨same_upd hfo, upd_same⟩
    have hnw1 := M0.same _ _ hnw
    -- for path in paths_after(..)
    refine ⟨_, rfl, _, _, _, _, _, rfl, hnw1, T.clN, T.nIds, nF_ids ad, _, rfl, _, _, _, _, _, rfl, hnw1, T.clN, T.nLinks, nF_links ad, _, rfl, ad.aI, ad.aL, d.network, x, rfl, (NetAt.rd N.c O.wf).same M0.same, by omega, fun H1 p1 s1 PS => ?_⟩
    have M1 := M0.grow s1
    obtain ⟨pas, c1, c2⟩ := id PS
    have hpl : (pk d.network x).length = d.network.bridgeIds.length := pk_length _ _
    refine ⟨_, rfl, ⟨_, SqL.of c1⟩, ?_⟩
    have n1 : p1 ≠ fo := fun e => by
      have z := M1.at_
      rw [← e, c1] at z
      cases pas with
      | nil => cases z
      | cons a as => cases z
    refine for_list (K := K) (a := p1) (xs := pas.map V.ref) (fun i σ H' => ∃ v3, σ = [some (.ref ad.nw), some (iV x), some (.ref fo), v3] ∧ Made H fo (nV (Su200.bridgeCount d.network :: ((pk d.network x).take i).flatMap (pOut d.network))) H' ∧ (∀ b o, H1 b = some o → b ≠ fo → H' b = some o))
      ⟨none, rfl, M1, fun b o e _ => e⟩ (fun i σ H' _ hP => ?_) (fun i z σ H' hz hP => ?_) (fun σ H' hP => ?_)
    · obtain ⟨_, _, _, hk⟩ := hP
      exact SqL.of (hk _ _ c1 n1)
    · obtain ⟨v3, rfl, M, hk⟩ := hP
      have hi : i < (pk d.network x).length := by
        have := (List.getElem?_eq_some_iff.mp hz).1
        rw [List.length_map, c2.len] at this
        exact this
      have hvi := List.getElem?_eq_getElem hi
      obtain ⟨pa, q1, q2, q3⟩ := c2.get hvi
      have ez : z = .ref pa := Option.some.inj (hz.symm.trans q2)
      subst ez
      have hpa : PathAt d.network H' pa _ := hk _ _ q3 (ne_of q3 M1.at_ (by intro e; cases e))
      refine ⟨_, rfl, .inl ⟨rfl, _, SqL.of M.at_⟩, _, rfl, pa, d.network, _, rfl, hpa, fun H2 p2 hp2 M2 => ?_⟩
      obtain ⟨e1, e2, e3⟩ := M.ext (ys := nV (Su200.bridgeCount d.network :: ((pk d.network x).take (i + 1)).flatMap (pOut d.network))) hfo M2.same M2.at_ (by
        rw [flat_more (pOut d.network) hvi]
        exact (nV_app (Su200.bridgeCount d.network :: ((pk d.network x).take i).flatMap (pOut d.network)) (pOut d.network _))) (by
        rw [nV_len, List.length_cons, flat_len (pOut d.network) 3 (fun _ => rfl), List.length_take]
        show _ + 3 ≤ 1000
        omega)
      refine ⟨fo, p2, _, _, rfl, rfl, e1, M2.at_, e2, _, rfl, e3, fun b o e q => ?_⟩
      rw [upd_ne q]
      exact M2.same _ _ (hk b o e q)
    · obtain ⟨v3, rfl, M, hk⟩ := hP
      rw [List.take_of_length_le (by rw [List.length_map, c2.len]; exact Nat.le_refl _)] at M
      exact ⟨_, rfl, fin_same k N (if_neg c) M.same hfo M.at_ rfl⟩
/-! ### needed_rounds, all_tree_links, root_path -/
abbrev s_needed_rounds : Stmt := topS 60
theorem sc_needed_rounds : FnScope ["network"] ["network"] (defScope s_needed_rounds) := ⟨rfl, rfl, rfl, by decide +kernel, rfl, by decide +kernel, by decide +kernel⟩
def sp_needed_rounds (K : PySem.W.Frag) (CN CL : Addr) : Sp := spOp CN CL 0 fun _ => .roundsToConverge
theorem ok_needed_rounds {f : Addr} {fd : FuncData} (F : Fun K "needed_rounds" "needed_rounds" s_needed_rounds f fd) (T : Txt K mg CN CL tM) {f_rounds_to_converge : Addr} {fd_rounds_to_converge : FuncData} (c_rounds_to_converge : Cal P w K mg base "rounds_to_converge" 5 ["ids", "links"] (sp_rounds_to_converge K CN CL) f_rounds_to_converge fd_rounds_to_converge) : FnOk P w K mg base CX0 6 f fd ["network"] (sp_needed_rounds K CN CL) := by
  refine F.ok sc_needed_rounds (fun vs H Q E h => spOp.len h) (fun cdv A outer s H vs Q E hr h => ?_)
  · obtain ⟨ad, d, xs, rfl, hxs, N, O, k⟩ := h
    obtain rfl := len0 hxs
    have hu := hu_of hr
    have k : Post CN CL H ad d .roundsToConverge Q := k
    obtain ⟨dx, hnw⟩ := id N.c.nw
    refine ⟨_, (pss_one (ps_ret (pe_lst (pa_cons (pe_call c_rounds_to_converge.ok (hr.mono (by decide)) (by rfl) c_rounds_to_converge.mg c_rounds_to_converge.kp c_rounds_to_converge.b .nil pass0 (pa_cons (pe_fld (pv 0) rfl) (pa_cons (pe_fld (pv 0) rfl) pa_nil))) pa_nil)))), ?_⟩
    refine ⟨_, rfl, _, _, _, _, _, rfl, hnw, T.clN, T.nIds, nF_ids ad, _, rfl, _, _, _, _, _, rfl, hnw, T.clN, T.nLinks, nF_links ad, ad.aI, ad.aL, d.network, rfl, NetAt.rd N.c O.wf, fun H1 s1 => ⟨(by show 1 ≤ sizeLine; decide), fun p hp => ?_⟩⟩
    exact fin_same k N rfl (same_grow s1 (s1.free hp)) (s1.free hp) upd_same rfl
abbrev s_all_tree_links : Stmt := topS 61
theorem sc_all_tree_links : FnScope ["network", "found"] ["network"] (defScope s_all_tree_links) := ⟨rfl, rfl, rfl, by decide +kernel, rfl, by decide +kernel, by decide +kernel⟩
def sp_all_tree_links (K : PySem.W.Frag) (CN CL : Addr) : Sp := spOp CN CL 0 fun _ => .treeLinks
theorem ok_all_tree_links {f : Addr} {fd : FuncData} (F : Fun K "all_tree_links" "all_tree_links" s_all_tree_links f fd) (T : Txt K mg CN CL tM) {f_tree_links : Addr} {fd_tree_links : FuncData} (c_tree_links : Cal P w K mg base "tree_links" 7 ["ids", "links"] (sp_tree_links K CN CL) f_tree_links fd_tree_links) : FnOk P w K mg base CX0 8 f fd ["network"] (sp_all_tree_links K CN CL) := by
  refine F.ok sc_all_tree_links (fun vs H Q E h => spOp.len h) (fun cdv A outer s H vs Q E hr h => ?_)
  · obtain ⟨ad, d, xs, rfl, hxs, N, O, k⟩ := h
    obtain rfl := len0 hxs
    have hu := hu_of hr
    have k : Post CN CL H ad d .treeLinks Q := k
    obtain ⟨dx, hnw⟩ := id N.c.nw
    have h12 := Nat.le_trans (treeLinks_len d.network) O.wf.linksLe
    refine ⟨_, (pss_cons (ps_set (i := 1) sc_all_tree_links.nd rfl (Or.inl rfl) (pe_call c_tree_links.ok (hr.mono (by decide)) (by rfl) c_tree_links.mg c_tree_links.kp c_tree_links.b .nil pass0 (pa_cons (pe_fld (pv 0) rfl) (pa_cons (pe_fld (pv 0) rfl) pa_nil))))
      (pss_one (ps_ret (pe_op op_cat (pe_lst (pa_cons (pe_callB call_len_seq (by rfl) T.nLen PySem.boot_len (pa_cons (pv 1) pa_nil)) pa_nil)) (pv 1))))), ?_⟩
    refine ⟨_, rfl, _, _, _, _, _, rfl, hnw, T.clN, T.nIds, nF_ids ad, _, rfl, _, _, _, _, _, rfl, hnw, T.clN, T.nLinks, nF_links ad, ad.aI, ad.aL, d.network, rfl, NetAt.rd N.c O.wf, fun H1 p1 hp1 M1 => ?_⟩
    refine ⟨_, rfl, _, _, rfl, .inl (SqL.of M1.at_), (by show 1 ≤ sizeLine; decide), fun p2 hp2 => ?_⟩
    have s2 : Same H1 (upd H1 p2 (.lst [.int ((nV (Su200.treeLinks d.network)).length : Int)])) := same_upd hp2
    refine ⟨_, rfl, p2, p1, _, _, rfl, rfl, upd_same, s2 _ _ M1.at_, by rw [nV_len]; exact size_of (m := 13) (by show 1 + _ ≤ 13; omega), fun p hp => ?_⟩
    refine fin_same k N rfl (M1.same.trans (s2.trans (same_upd hp))) (M1.same.free (s2.free hp)) upd_same ?_
    rw [nV_len]
    rfl
abbrev s_root_path : Stmt := topS 62
theorem sc_root_path : FnScope ["network", "bridge"] ["network", "bridge"] (defScope s_root_path) := ⟨rfl, rfl, rfl, by decide +kernel, rfl, by decide +kernel, by decide +kernel⟩
def sp_root_path (K : PySem.W.Frag) (CN CL : Addr) : Sp := spOp CN CL 1 fun xs => .rootPath (xs.getD 0 0)
theorem ok_root_path {f : Addr} {fd : FuncData} (F : Fun K "root_path" "root_path" s_root_path f fd) (T : Txt K mg CN CL tM) {f_path_fields : Addr} {fd_path_fields : FuncData} (c_path_fields : Cal P w K mg base "path_fields" 2 ["path"] (sp_path_fields K CN CL) f_path_fields fd_path_fields) {f_Network_has_bridge : Addr} {fd_Network_has_bridge : FuncData} (c_Network_has_bridge : CalM P w K mg base "has_bridge" CN 1 ["self", "bridge"] (sp_Network_has_bridge K CN CL) f_Network_has_bridge fd_Network_has_bridge) {f_converged_paths : Addr} {fd_converged_paths : FuncData} (c_converged_paths : Cal P w K mg base "converged_paths" 6 ["ids", "links"] (sp_converged_paths K CN CL) f_converged_paths fd_converged_paths) : FnOk P w K mg base CX0 7 f fd ["network", "bridge"] (sp_root_path K CN CL) := by
  refine F.ok sc_root_path (fun vs H Q E h => spOp.len h) (fun cdv A outer s H vs Q E hr h => ?_)
  · obtain ⟨ad, d, xs, rfl, hxs, N, O, k⟩ := h
    obtain ⟨v, rfl⟩ := len1 hxs
    have hu := hu_of hr
    have k : Post CN CL H ad d (.rootPath v) Q := k
    obtain ⟨dx, hnw⟩ := id N.c.nw
    refine ⟨_, (pss_cons (ps_if (pt_not (pt_val (pe_meth (pv 0) T.clN c_Network_has_bridge.mt c_Network_has_bridge.ok (hr.mono (by decide)) c_Network_has_bridge.b .nil pass0 (pa_cons (pv 1) pa_nil))))
      (pss_one (ps_ret (pe_lst (pa_cons (pe_cst rfl T.c_NOT_THERE) pa_nil))))
      pss_nil)
      (pss_one (ps_ret (pe_call c_path_fields.ok (hr.mono (by decide)) (by rfl) c_path_fields.mg c_path_fields.kp c_path_fields.b .nil pass0 (pa_cons (pe_ix ix_list (pe_call c_converged_paths.ok (hr.mono (by decide)) (by rfl) c_converged_paths.mg c_converged_paths.kp c_converged_paths.b .nil pass0 (pa_cons (pe_fld (pv 0) rfl) (pa_cons (pe_fld (pv 0) rfl) pa_nil))) (pv 1) (fun _ _ => rfl)) pa_nil))))), ?_⟩
    refine ⟨_, rfl, ad.nw, dx, _, rfl, hnw, nF_has_bridge ad, _, rfl, ad, d, v, rfl, N.c, _, rfl, ?_⟩
    cases ca : Su200.hasBridge d v with
    | false => exact iteT ⟨(by show 1 ≤ sizeLine; decide), fun p hp => fin_same k N (if_pos ca) (same_upd hp) hp upd_same rfl⟩
    | true =>
    refine iteF ?_
    have c1 : ¬ Su200.hasBridge d v = false := by
      rw [ca]
      simp
    have hv : v < d.network.bridgeIds.length := of_decide_eq_true ca
    refine ⟨_, rfl, _, _, _, _, _, rfl, hnw, T.clN, T.nIds, nF_ids ad, _, rfl, _, _, _, _, _, rfl, hnw, T.clN, T.nLinks, nF_links ad, ad.aI, ad.aL, d.network, rfl, NetAt.rd N.c O.wf, fun H1 p1 s1 PS => ?_⟩
    obtain ⟨pas, c1', c2⟩ := id PS
    have hpl : (Su200.convergedPaths d.network).length = d.network.bridgeIds.length := pk_length _ _
    obtain ⟨pa, q1, q2, q3⟩ := c2.get (getD_at (l := Su200.convergedPaths d.network) (i := v) (by rw [hpl]; exact hv) (Su200.ownPath d.network v))
    refine ⟨_, rfl, _, _, _, _, rfl, rfl, SqL.of c1', at_nat q2, pa, d.network, _, rfl, q3, fun H2 p2 hp2 M2 => ?_⟩
    exact fin_same k N (if_neg c1) (s1.trans M2.same) (s1.free hp2) M2.at_ rfl
/-! ### path_between, bridges_connected_to -/
abbrev s_path_between : Stmt := topS 63
theorem sc_path_between : FnScope ["network", "start", "goal", "found"] ["network", "start", "goal"] (defScope s_path_between) := ⟨rfl, rfl, rfl, by decide +kernel, rfl, by decide +kernel, by decide +kernel⟩
def sp_path_between (K : PySem.W.Frag) (CN CL : Addr) : Sp := spOp CN CL 2 fun xs => .treePath (xs.getD 0 0) (xs.getD 1 0)
theorem ok_path_between {f : Addr} {fd : FuncData} (F : Fun K "path_between" "path_between" s_path_between f fd) (T : Txt K mg CN CL tM) {f_tree_path : Addr} {fd_tree_path : FuncData} (c_tree_path : Cal P w K mg base "tree_path" 8 ["ids", "links", "start", "goal"] (sp_tree_path K CN CL) f_tree_path fd_tree_path) {f_connected_bridges : Addr} {fd_connected_bridges : FuncData} (c_connected_bridges : Cal P w K mg base "connected_bridges" 5 ["links", "bridge"] (sp_connected_bridges K CN CL) f_connected_bridges fd_connected_bridges) {f_Network_has_bridge : Addr} {fd_Network_has_bridge : FuncData} (c_Network_has_bridge : CalM P w K mg base "has_bridge" CN 1 ["self", "bridge"] (sp_Network_has_bridge K CN CL) f_Network_has_bridge fd_Network_has_bridge) : FnOk P w K mg base CX0 9 f fd ["network", "start", "goal"] (sp_path_between K CN CL) := by
  refine F.ok sc_path_between (fun vs H Q E h => spOp.len h) (fun cdv A outer s H vs Q E hr h => ?_)
  · obtain ⟨ad, d, xs, rfl, hxs, N, O, k⟩ := h
    obtain ⟨a, b, rfl⟩ := len2 hxs
    have hu := hu_of hr
    have k : Post CN CL H ad d (.treePath a b) Q := k
    obtain ⟨dx, hnw⟩ := id N.c.nw
    refine ⟨_, (pss_cons (ps_if (PW.pt (pw_or (pt_not (pt_val (pe_meth (pv 0) T.clN c_Network_has_bridge.mt c_Network_has_bridge.ok (hr.mono (by decide)) c_Network_has_bridge.b .nil pass0 (pa_cons (pv 1) pa_nil)))) (pw_or1 (pt_not (pt_val (pe_meth (pv 0) T.clN c_Network_has_bridge.mt c_Network_has_bridge.ok (hr.mono (by decide)) c_Network_has_bridge.b .nil pass0 (pa_cons (pv 2) pa_nil)))))))
      (pss_one (ps_ret (pe_lst (pa_cons (pe_cst rfl T.c_NOT_THERE) pa_nil))))
      pss_nil)
      (pss_cons (ps_if (pt_cmpR op_notIn_seq (pv 2) (pe_call c_connected_bridges.ok (hr.mono (by decide)) (by rfl) c_connected_bridges.mg c_connected_bridges.kp c_connected_bridges.b .nil pass0 (pa_cons (pe_fld (pv 0) rfl) (pa_cons (pv 1) pa_nil))) (by rfl))
      (pss_one (ps_ret (pe_lst (pa_cons (pe_cst rfl T.c_NOT_CONNECTED) pa_nil))))
      pss_nil)
      (pss_cons (ps_set (i := 3) sc_path_between.nd rfl (Or.inl rfl) (pe_call c_tree_path.ok (hr.mono (by decide)) (by rfl) c_tree_path.mg c_tree_path.kp c_tree_path.b .nil pass0 (pa_cons (pe_fld (pv 0) rfl) (pa_cons (pe_fld (pv 0) rfl) (pa_cons (pv 1) (pa_cons (pv 2) pa_nil))))))
      (pss_one (ps_ret (pe_op op_cat (pe_lst (pa_cons (pe_callB call_len_seq (by rfl) T.nLen PySem.boot_len (pa_cons (pv 3) pa_nil)) pa_nil)) (pv 3))))))), ?_⟩
    have ret2 : (Su200.hasBridge d a = false ∨ Su200.hasBridge d b = false) → ∀ p, H p = none → Q (.ref p) (upd H p (.lst [V.int (-2)])) := fun c p hp =>
      fin_same k N (if_pos c) (same_upd hp) hp upd_same rfl
    refine ⟨_, rfl, ad.nw, dx, _, rfl, hnw, nF_has_bridge ad, _, rfl, ad, d, a, rfl, N.c, _, rfl, ?_⟩
    cases ca : Su200.hasBridge d a with
    | false => exact ⟨(by show 1 ≤ sizeLine; decide), ret2 (.inl ca)⟩
    | true =>
    refine iteF ?_
    refine ⟨_, rfl, ad.nw, dx, _, rfl, hnw, nF_has_bridge ad, _, rfl, ad, d, b, rfl, N.c, _, rfl, ?_⟩
    cases cb : Su200.hasBridge d b with
    | false => exact ⟨(by show 1 ≤ sizeLine; decide), ret2 (.inr cb)⟩
    | true =>
    refine iteF ?_
    have c1 : ¬ (Su200.hasBridge d a = false ∨ Su200.hasBridge d b = false) := by
      rw [ca, cb]
      simp
    have ha : a < d.network.bridgeIds.length := of_decide_eq_true ca
    have hb : b < d.network.bridgeIds.length := of_decide_eq_true cb
    -- if goal not in connected_bridges(network.links, start)
    refine ⟨_, rfl, _, rfl, _, _, _, _, _, rfl, hnw, T.clN, T.nLinks, nF_links ad, _, rfl, ad.aL, d.network, a, rfl, O.wf, (NetAt.rd N.c O.wf).lnk, ha, fun H1 p1 hp1 M1 => ?_⟩
    refine ⟨p1, _, rfl, .inl (SqL.of M1.at_), rfl, flat_nV _, _, rfl, ?_⟩
    have ein : inV (iV b) (nV ((List.range (Su200.bridgeCount d.network)).filter fun x => (Su200.connectedBridges d.network a).contains x)) = (Su200.connectedBridges d.network a).contains b := by
      rw [inV_nV, Bool.eq_iff_iff, List.contains_iff_mem, List.mem_filter, List.mem_range]
      exact ⟨fun h => h.2, fun h => ⟨hb, h⟩⟩
    refine ite2 (fun c => ?_) (fun c => ?_)
    · have c : (!inV (iV b) (nV ((List.range (Su200.bridgeCount d.network)).filter fun x => (Su200.connectedBridges d.network a).contains x))) = true := c
      rw [ein] at c
      have hn : b ∉ Su200.connectedBridges d.network a := fun q => by
        rw [List.contains_iff_mem.mpr q] at c
        cases c
      refine ⟨(by show 1 ≤ sizeLine; decide), fun p hp => fin_same (r := Su200.error (-33)) k N ?_ (M1.same.trans (same_upd hp)) (M1.same.free hp) upd_same rfl⟩
      refine (if_neg c1).trans ?_
      rw [no_path O.wf ha hn]
    · have c : ¬ (!inV (iV b) (nV ((List.range (Su200.bridgeCount d.network)).filter fun x => (Su200.connectedBridges d.network a).contains x))) = true := c
      rw [ein] at c
      have hc : b ∈ Su200.connectedBridges d.network a := by
        refine List.contains_iff_mem.mp ?_
        cases q : (Su200.connectedBridges d.network a).contains b with
        | true => rfl
        | false =>
          rw [q] at c
          exact absurd rfl c
      have hnw1 := M1.same _ _ hnw
      refine ⟨_, rfl, _, _, _, _, _, rfl, hnw1, T.clN, T.nIds, nF_ids ad, _, rfl, _, _, _, _, _, rfl, hnw1, T.clN, T.nLinks, nF_links ad, _, rfl, _, rfl, ad.aI, ad.aL, d.network, a, b, rfl, (NetAt.rd N.c O.wf).same M1.same, ha, hc, fun H2 p2 l s2 hl hl7 h2 => ?_⟩
      refine ⟨_, rfl, _, _, rfl, .inl (SqL.of h2), (by show 1 ≤ sizeLine; decide), fun p3 hp3 => ?_⟩
      have s3 : Same H2 (upd H2 p3 (.lst [.int ((nV l).length : Int)])) := same_upd hp3
      refine ⟨_, rfl, p3, p2, _, _, rfl, rfl, upd_same, s3 _ _ h2, by rw [nV_len]; exact size_of (m := 8) (by show 1 + _ ≤ 8; omega), fun p hp => ?_⟩
      have s12 := M1.same.trans s2
      refine fin_same (r := Su200.okList l) k N ?_ (s12.trans (s3.trans (same_upd hp))) (s12.free (s3.free hp)) upd_same ?_
      · refine (if_neg c1).trans ?_
        rw [hl]
      · rw [nV_len]
        rfl
abbrev s_bridges_connected_to : Stmt := topS 64
theorem sc_bridges_connected_to : FnScope ["network", "bridge", "found"] ["network", "bridge"] (defScope s_bridges_connected_to) := ⟨rfl, rfl, rfl, by decide +kernel, rfl, by decide +kernel, by decide +kernel⟩
def sp_bridges_connected_to (K : PySem.W.Frag) (CN CL : Addr) : Sp := spOp CN CL 1 fun xs => .connectedBridges (xs.getD 0 0)
theorem ok_bridges_connected_to {f : Addr} {fd : FuncData} (F : Fun K "bridges_connected_to" "bridges_connected_to" s_bridges_connected_to f fd) (T : Txt K mg CN CL tM) {f_connected_bridges : Addr} {fd_connected_bridges : FuncData} (c_connected_bridges : Cal P w K mg base "connected_bridges" 5 ["links", "bridge"] (sp_connected_bridges K CN CL) f_connected_bridges fd_connected_bridges) {f_Network_has_bridge : Addr} {fd_Network_has_bridge : FuncData} (c_Network_has_bridge : CalM P w K mg base "has_bridge" CN 1 ["self", "bridge"] (sp_Network_has_bridge K CN CL) f_Network_has_bridge fd_Network_has_bridge) : FnOk P w K mg base CX0 6 f fd ["network", "bridge"] (sp_bridges_connected_to K CN CL) := by
  refine F.ok sc_bridges_connected_to (fun vs H Q E h => spOp.len h) (fun cdv A outer s H vs Q E hr h => ?_)
  · obtain ⟨ad, d, xs, rfl, hxs, N, O, k⟩ := h
    obtain ⟨a, rfl⟩ := len1 hxs
    have hu := hu_of hr
    have k : Post CN CL H ad d (.connectedBridges a) Q := k
    obtain ⟨dx, hnw⟩ := id N.c.nw
    have hle := O.wf.idsLe
    refine ⟨_, (pss_cons (ps_if (pt_not (pt_val (pe_meth (pv 0) T.clN c_Network_has_bridge.mt c_Network_has_bridge.ok (hr.mono (by decide)) c_Network_has_bridge.b .nil pass0 (pa_cons (pv 1) pa_nil))))
      (pss_one (ps_ret (pe_lst (pa_cons (pe_cst rfl T.c_NOT_THERE) pa_nil))))
      pss_nil)
      (pss_cons (ps_set (i := 2) sc_bridges_connected_to.nd rfl (Or.inl rfl) (pe_call c_connected_bridges.ok (hr.mono (by decide)) (by rfl) c_connected_bridges.mg c_connected_bridges.kp c_connected_bridges.b .nil pass0 (pa_cons (pe_fld (pv 0) rfl) (pa_cons (pv 1) pa_nil))))
      (pss_one (ps_ret (pe_op op_cat (pe_lst (pa_cons (pe_callB call_len_seq (by rfl) T.nLen PySem.boot_len (pa_cons (pv 2) pa_nil)) pa_nil)) (pv 2)))))), ?_⟩
    refine ⟨_, rfl, ad.nw, dx, _, rfl, hnw, nF_has_bridge ad, _, rfl, ad, d, a, rfl, N.c, _, rfl, ?_⟩
    cases ca : Su200.hasBridge d a with
    | false => exact iteT ⟨(by show 1 ≤ sizeLine; decide), fun p hp => fin_same k N (if_pos ca) (same_upd hp) hp upd_same rfl⟩
    | true =>
    refine iteF ?_
    have c1 : ¬ Su200.hasBridge d a = false := by
      rw [ca]
      simp
    have ha : a < d.network.bridgeIds.length := of_decide_eq_true ca
    refine ⟨_, rfl, _, _, _, _, _, rfl, hnw, T.clN, T.nLinks, nF_links ad, _, rfl, ad.aL, d.network, a, rfl, O.wf, (NetAt.rd N.c O.wf).lnk, ha, fun H1 p1 hp1 M1 => ?_⟩
    refine ⟨_, rfl, _, _, rfl, .inl (SqL.of M1.at_), (by show 1 ≤ sizeLine; decide), fun p2 hp2 => ?_⟩
    have s2 := same_upd (o := .lst [.int ((nV ((List.range (Su200.bridgeCount d.network)).filter fun x => (Su200.connectedBridges d.network a).contains x)).length : Int)]) hp2
    have hl : ((List.range (Su200.bridgeCount d.network)).filter fun x => (Su200.connectedBridges d.network a).contains x).length ≤ 7 := by
      have := List.length_filter_le (fun x => (Su200.connectedBridges d.network a).contains x) (List.range (Su200.bridgeCount d.network))
      rw [List.length_range] at this
      exact Nat.le_trans this hle
    refine ⟨_, rfl, p2, p1, _, _, rfl, rfl, upd_same, s2 _ _ M1.at_, by rw [nV_len]; exact size_of (m := 8) (by show 1 + _ ≤ 8; omega), fun p hp => ?_⟩
    refine fin_same k N (if_neg c1) (M1.same.trans (s2.trans (same_upd hp))) (M1.same.free (s2.free hp)) upd_same ?_
    rw [nV_len]
    rfl
end
end TB
end
section
namespace TB
open PySem PySem.Spec PyProof.Rows L2
def lOut (l : Lk) : List Nat := [l.endA, l.endB, l.cost, Su200.boolToNat l.up]
section
variable {P : Program} {w : World} {K : PySem.W.Frag} {mg : Str → Option Value} {base : Heap} {CN CL tM : Addr}
/-! ### learned_entries -/
abbrev s_learned_entries : Stmt := topS 65
theorem sc_learned_entries : FnScope ["network", "host", "bridges", "found", "bridge"] ["network", "host"] (defScope s_learned_entries) := ⟨rfl, rfl, rfl, by decide +kernel, rfl, by decide +kernel, by decide +kernel⟩
def sp_learned_entries (K : PySem.W.Frag) (CN CL : Addr) : Sp := spOp CN CL 1 fun xs => .learnedEntries (xs.getD 0 0)
theorem ok_learned_entries {f : Addr} {fd : FuncData} (F : Fun K "learned_entries" "learned_entries" s_learned_entries f fd) (T : Txt K mg CN CL tM) {f_link_code : Addr} {fd_link_code : FuncData} (c_link_code : Cal P w K mg base "link_code" 1 ["index"] (sp_link_code K CN CL) f_link_code fd_link_code) : FnOk P w K mg base CX0 2 f fd ["network", "host"] (sp_learned_entries K CN CL) := by
  refine F.ok sc_learned_entries (fun vs H Q E h => spOp.len h) (fun cdv A outer s H vs Q E hr h => ?_)
  · obtain ⟨ad, d, xs, rfl, hxs, N, O, k⟩ := h
    obtain ⟨x, rfl⟩ := len1 hxs
    have hu := hu_of hr
    have k : Post CN CL H ad d (.learnedEntries x) Q := k
    obtain ⟨dx, hnw⟩ := id N.c.nw
    obtain ⟨kvs, hH, HK⟩ := id N.c.hosts
    have hle := O.wf.idsLe
    refine ⟨_, (pss_cons (ps_if (pt_cmp (pc_dnotin hu (pv 1) (pe_fld (pv 0) rfl)))
      (pss_one (ps_ret (pe_lst (pa_cons (pe_cst rfl T.c_NOT_THERE) pa_nil))))
      pss_nil)
      (pss_cons (ps_setLc (i := 2) (own := [("bridge", 4)]) (g := gName 4) rfl sc_learned_entries.nd rfl rfl (sw_true rfl rfl rfl (by decide +kernel)) (pi_range1 (by rfl) T.nRange (pa_cons (pe_callB call_len_seq (by rfl) T.nLen PySem.boot_len (pa_cons (pe_fld (pv 0) rfl) pa_nil)) pa_nil)) (blkOk_by (N := ["network", "host", "bridges", "found", "bridge"]) (sc := defScope s_learned_entries) (by decide +kernel)) (fun _ _ _ _ _ => (pg_name (i := 4) sc_learned_entries.nd rfl (Or.inl rfl))) (fun _ _ _ _ _ => (pts_one (pt_cmp (pc_din hu (pv 1) (pe_ix (ix_listI K) (pe_fldI K (pv 0) rfl) (pv 4) (fun _ _ => rfl)))))) (fun _ _ _ _ _ => (pv 4)))
      (pss_cons (ps_set (i := 3) sc_learned_entries.nd rfl (Or.inl rfl) (pe_lst (pa_cons (pe_callB call_len_seq (by rfl) T.nLen PySem.boot_len (pa_cons (pv 2) pa_nil)) pa_nil)))
      (pss_cons (ps_for PassesOwn.never rfl (pi_list (pv 2)) (pg_name (i := 4) sc_learned_entries.nd rfl (Or.inl rfl))
      (pss_one (ps_expr (pe_bm PySem.F.plainAttrs_list PySem.F.slot_list_extend PySem.F.type_list_extend mt_extend (pv 3) (pa_cons (pe_lst (pa_cons (pv 4) (pa_cons (pe_call c_link_code.ok (hr.mono (by decide)) (by rfl) c_link_code.mg c_link_code.kp c_link_code.b .nil pass0 (pa_cons (pe_dget hu (pe_ix ix_list (pe_fld (pv 0) rfl) (pv 4) (fun _ _ => rfl)) (pv 1) (fun _ _ => rfl)) pa_nil)) pa_nil))) pa_nil)))))
      (pss_one (ps_ret (pv 3))))))), ?_⟩
    refine ⟨_, rfl, _, rfl, _, _, _, _, _, rfl, hnw, T.clN, T.nHosts, nF_hosts ad, ad.aH, _, rfl, DGet.k (k := Sum.inl (x : Int)) hH, _, rfl, ?_⟩
    have hgx := HK.get x
    cases cx : hostOf d.hosts x with
    | none =>
      rw [cx] at hgx
      rw [hgx]
      refine iteT ⟨(by show 1 ≤ sizeLine; decide), fun p hp => fin_same (r := Su200.error (-2)) k N ?_ (same_upd hp) hp upd_same rfl⟩
      show (match Su200.hostBridge d x with
        | none => _
        | some _ => _) = _
      rw [hostBridge_eq, cx]
    | some v0 =>
    rw [cx] at hgx
    rw [hgx]
    refine iteF ?_
    generalize hbs : (List.range (Su200.bridgeCount d.network)).filter (fun v => (Su200.tableEntry d v x).isSome) = bs
    have ex : Su200.execute d (.learnedEntries x) = (d, Su200.ok bs.length (bs.flatMap fun v => [v, Su200.linkCode d.network ((Su200.tableEntry d v x).getD 0)])) := by
      show (match Su200.hostBridge d x with
        | none => _
        | some _ => _) = _
      rw [hostBridge_eq, cx]
      show (d, Su200.ok _ _) = _
      rw [entries_eq, hbs, List.length_map, List.flatMap_map]
    have hbl : ∀ v ∈ bs, v < d.network.bridgeIds.length ∧ (Su200.tableEntry d v x).isSome = true := by
      intro v hv
      rw [← hbs, List.mem_filter, List.mem_range] at hv
      exact hv
    have hb7 : bs.length ≤ 7 := by
      rw [← hbs]
      have := List.length_filter_le (fun v => (Su200.tableEntry d v x).isSome) (List.range (Su200.bridgeCount d.network))
      rw [List.length_range] at this
      exact Nat.le_trans this hle
    -- bridges = [..]
    refine ⟨_, rfl, _, _, _, _, _, rfl, hnw, T.clN, T.nIds, nF_ids ad, _, _, rfl, .inl (SqL.of N.c.ids), _, rfl, (b62 (m := 7) (by rw [nV_len]; exact hle)).1, (b62 (m := 7) (by rw [nV_len]; exact hle)).2, fun D hD => ?_⟩
    refine lc_rng (n := (nV d.network.bridgeIds).length) (fun i H' => Made H D (nV ((List.range i).filter fun v => (Su200.tableEntry d v x).isSome)) H') (Made.start hD) (fun i H1 hi M => ?_) (fun H1 M => ?_)
    · have hi' : i < d.network.bridgeIds.length := by
        rw [nV_len] at hi
        exact hi
      have N1 := N.same M.same
      obtain ⟨dx1, hnw1⟩ := id N1.c.nw
      obtain ⟨ta, kv, t1, t2, t3, t4⟩ := N1.tabs.get hi'
      refine ⟨rfl, _, rfl, _, rfl, _, _, _, _, _, rfl, hnw1, T.clN, T.nTables, nF_tables ad, _, rfl, _, _, _, _, rfl, rfl, SqL.of N1.tabs.lst, at_nat t2, ta, _, rfl, DGet.k (k := Sum.inl (x : Int)) t3, _, rfl, ?_⟩
      rw [t4.get, Option.isSome_map]
      refine ite2 (fun c => ?_) (fun c => ?_)
      · exact ⟨_, rfl, M.snoc hD (Nat.le_trans (range_filter_len i) (by omega)) (range_keep (p := fun v => (Su200.tableEntry d v x).isSome) c)⟩
      · exact M.eq (range_skip (p := fun v => (Su200.tableEntry d v x).isSome) c)
    · rw [nV_len] at M
      have hbs' : (List.range d.network.bridgeIds.length).filter (fun v => (Su200.tableEntry d v x).isSome) = bs := hbs
      rw [hbs'] at M
      -- found = [len(bridges)]
      refine ⟨_, rfl, _, _, rfl, .inl (SqL.of M.at_), (by show 1 ≤ sizeLine; decide), fun fo hfo => ?_⟩
      have M0 : Made H1 fo (nV (bs.length :: (bs.take 0).flatMap fun v => [v, Su200.linkCode d.network ((Su200.tableEntry d v x).getD 0)])) (upd H1 fo (.lst [.int ((nV bs).length : Int)])) := by
        rw [nV_len]
        exact ⟨same_upd hfo, upd_same⟩
      refine ⟨_, rfl, _, rfl, ⟨_, SqL.of (M0.same _ _ M.at_)⟩, ?_⟩
      refine for_list (K := K) (a := D) (xs := nV bs) (fun i σ H' => ∃ v4, σ = [some (.ref ad.nw), some (iV x), some (.ref D), some (.ref fo), v4] ∧ Made H1 fo (nV (bs.length :: (bs.take i).flatMap fun v => [v, Su200.linkCode d.network ((Su200.tableEntry d v x).getD 0)])) H')
        ⟨none, rfl, M0⟩ (fun i σ H' _ hP => ?_) (fun i z σ H' hz hP => ?_) (fun σ H' hP => ?_)
      · obtain ⟨_, _, M2⟩ := hP
        exact SqL.of (M2.same _ _ M.at_)
      · obtain ⟨v4, rfl, M2⟩ := hP
        obtain ⟨v, hv, rfl⟩ := nV_at hz
        obtain ⟨hvl, hvs⟩ := hbl v (List.mem_of_getElem? hv)
        obtain ⟨e, he⟩ := Option.isSome_iff_exists.mp hvs
        have N2 := (N.same M.same).same M2.same
        obtain ⟨dx2, hnw2⟩ := id N2.c.nw
        obtain ⟨ta, kv, t1, t2, t3, t4⟩ := N2.tabs.get hvl
        have hge := t4.get x
        rw [he] at hge
        refine ⟨_, rfl, .inl ⟨rfl, _, SqL.of M2.at_⟩, _, rfl, _, rfl, _, _, _, _, _, rfl, hnw2, T.clN, T.nTables, nF_tables ad, _, rfl, _, _, _, _, rfl, rfl, SqL.of N2.tabs.lst, at_nat t2, _, rfl, ta, .int (viaZ d.network e), rfl, by
          have z := DGet.k (k := Sum.inl (x : Int)) t3
          rw [hge] at z
          exact z, d.network, e, rfl, (by show 2 ≤ sizeLine; decide), fun pn hpn => ?_⟩
        obtain ⟨e1, e2, e3⟩ := M2.ext (ys := nV (bs.length :: (bs.take (i + 1)).flatMap fun v => [v, Su200.linkCode d.network ((Su200.tableEntry d v x).getD 0)])) (zs := [iV v, iV (Su200.linkCode d.network e)]) hfo (same_upd hpn) upd_same (by
          rw [flat_more _ hv, he]
          exact (nV_app (bs.length :: (bs.take i).flatMap fun v => [v, Su200.linkCode d.network ((Su200.tableEntry d v x).getD 0)]) [v, Su200.linkCode d.network e])) (by
          rw [nV_len, List.length_cons, flat_len (fun v => [v, Su200.linkCode d.network ((Su200.tableEntry d v x).getD 0)]) 2 (fun _ => rfl), List.length_take]
          show _ + 2 ≤ 1000
          omega)
        exact ⟨fo, pn, _, _, rfl, rfl, e1, upd_same, e2, _, rfl, e3⟩
      · obtain ⟨v4, rfl, M2⟩ := hP
        rw [List.take_of_length_le (by rw [nV_len]; exact Nat.le_refl _)] at M2
        exact ⟨_, rfl, fin_same k N ex (M.same.trans M2.same) (M.same.free hfo) M2.at_ rfl⟩
/-! ### preview_link_down -/
abbrev s_preview_link_down : Stmt := topS 66
theorem sc_preview_link_down : FnScope ["network", "number", "now", "later", "index"] ["network", "number"] (defScope s_preview_link_down) := ⟨rfl, rfl, rfl, by decide +kernel, rfl, by decide +kernel, by decide +kernel⟩
def sp_preview_link_down (K : PySem.W.Frag) (CN CL : Addr) : Sp := spOp CN CL 1 fun xs => .previewLinkDown (xs.getD 0 0)
theorem ok_preview_link_down {f : Addr} {fd : FuncData} (F : Fun K "preview_link_down" "preview_link_down" s_preview_link_down f fd) (T : Txt K mg CN CL tM) {f_tree_links : Addr} {fd_tree_links : FuncData} (c_tree_links : Cal P w K mg base "tree_links" 7 ["ids", "links"] (sp_tree_links K CN CL) f_tree_links fd_tree_links) {f_Network_has_link : Addr} {fd_Network_has_link : FuncData} (c_Network_has_link : CalM P w K mg base "has_link" CN 1 ["self", "link"] (sp_Network_has_link K CN CL) f_Network_has_link fd_Network_has_link) {f_with_down : Addr} {fd_with_down : FuncData} (c_with_down : Cal P w K mg base "with_down" 3 ["links", "number"] (sp_with_down K CN CL) f_with_down fd_with_down) : FnOk P w K mg base CX0 8 f fd ["network", "number"] (sp_preview_link_down K CN CL) := by
  refine F.ok sc_preview_link_down (fun vs H Q E h => spOp.len h) (fun cdv A outer s H vs Q E hr h => ?_)
  · obtain ⟨ad, d, xs, rfl, hxs, N, O, k⟩ := h
    obtain ⟨i, rfl⟩ := len1 hxs
    have hu := hu_of hr
    have k : Post CN CL H ad d (.previewLinkDown i) Q := k
    obtain ⟨dx, hnw⟩ := id N.c.nw
    refine ⟨_, (pss_cons (ps_if (pt_not (pt_val (pe_meth (pv 0) T.clN c_Network_has_link.mt c_Network_has_link.ok (hr.mono (by decide)) c_Network_has_link.b .nil pass0 (pa_cons (pv 1) pa_nil))))
      (pss_one (ps_ret (pe_lst (pa_cons (pe_cst rfl T.c_NOT_THERE) pa_nil))))
      pss_nil)
      (pss_cons (ps_if (pt_not (pt_val (pe_fld (pe_ix ix_list (pe_fld (pv 0) rfl) (pv 1) (fun _ _ => rfl)) rfl)))
      (pss_one (ps_ret (pe_lst (pa_cons (pe_cst rfl T.c_ALREADY_DOWN) pa_nil))))
      pss_nil)
      (pss_cons (ps_set (i := 2) sc_preview_link_down.nd rfl (Or.inr rfl) (pe_call c_tree_links.ok (hr.mono (by decide)) (by rfl) c_tree_links.mg c_tree_links.kp c_tree_links.b .nil pass0 (pa_cons (pe_fld (pv 0) rfl) (pa_cons (pe_fld (pv 0) rfl) pa_nil))))
      (pss_cons (ps_set (i := 3) sc_preview_link_down.nd rfl (Or.inl rfl) (pe_call c_tree_links.ok (hr.mono (by decide)) (by rfl) c_tree_links.mg c_tree_links.kp c_tree_links.b .nil pass0 (pa_cons (pe_fld (pv 0) rfl) (pa_cons (pe_call c_with_down.ok (hr.mono (by decide)) (by rfl) c_with_down.mg c_with_down.kp c_with_down.b .nil pass0 (pa_cons (pe_fld (pv 0) rfl) (pa_cons (pv 1) pa_nil))) pa_nil))))
      (pss_one (ps_ret (pe_lst (pa_cons (pe_callTy call_int1 (by rfl) T.nInt (by decide +kernel) (pa_cons (pe_cmpR op_in_seq (pv 1) (pv 2) (by rfl)) pa_nil)) (pa_cons (pe_callB call_len_seq (by rfl) T.nLen PySem.boot_len (pa_cons (pv 3) pa_nil)) (pa_cons (pe_callB call_len_seq (by rfl) T.nLen PySem.boot_len (pa_cons (pe_lc (own := [("index", 4)]) (g := gName 4) rfl sc_preview_link_down.nd (pi_list (pv 3)) (blkOk_by (N := ["network", "number", "now", "later", "index"]) (sc := defScope s_preview_link_down) (by decide +kernel)) (fun _ _ _ _ _ => (pg_name (i := 4) sc_preview_link_down.nd rfl (Or.inl rfl))) (fun _ _ _ _ _ => (pts_one (pt_cmpR (op_notIn_seqI K) (pv 4) (pv 2) (by rfl)))) (fun _ _ _ _ _ => (pv 4))) pa_nil)) pa_nil)))))))))), ?_⟩
    refine ⟨_, rfl, ad.nw, dx, _, rfl, hnw, nF_has_link ad, _, rfl, ad, d, i, rfl, N.c, _, rfl, ?_⟩
    cases ca : Su200.hasLink d i with
    | false => exact iteT ⟨(by show 1 ≤ sizeLine; decide), fun p hp => fin_same k N (if_pos ca) (same_upd hp) hp upd_same rfl⟩
    | true =>
    refine iteF ?_
    have c1 : ¬ Su200.hasLink d i = false := by
      rw [ca]
      simp
    have hi : i < d.network.links.length := of_decide_eq_true ca
    obtain ⟨la, dl, g1, g2, g3⟩ := N.c.link hi
    refine ⟨_, rfl, _, _, _, _, _, rfl, hnw, T.clN, T.nLinks, nF_links ad, _, rfl, _, _, _, _, rfl, rfl, SqL.of N.c.lks.lst, at_nat g2, _, _, _, _, _, rfl, g3, T.clL, T.nUp, lF_up _, _, rfl, ?_⟩
    cases cu : (lnk d.network i).up with
    | false => exact iteT ⟨(by show 1 ≤ sizeLine; decide), fun p hp => fin_same k N ((if_neg c1).trans (if_pos cu)) (same_upd hp) hp upd_same rfl⟩
    | true =>
    refine iteF ?_
    have c2 : ¬ (Su200.link d.network i).up = false := fun q => by
      rw [show (Su200.link d.network i).up = true from cu] at q
      cases q
    have W1 : WF (Su200.setUp d.network i false) := wf_setUp O.wf hi false
    -- now = tree_links(..)
    refine ⟨_, rfl, _, _, _, _, _, rfl, hnw, T.clN, T.nIds, nF_ids ad, _, rfl, _, _, _, _, _, rfl, hnw, T.clN, T.nLinks, nF_links ad, ad.aI, ad.aL, d.network, rfl, NetAt.rd N.c O.wf, fun H1 p1 hp1 M1 => ?_⟩
    have hnw1 := M1.same _ _ hnw
    -- later = tree_links(.., with_down(..))
    refine ⟨_, rfl, _, _, _, _, _, rfl, hnw1, T.clN, T.nIds, nF_ids ad, _, rfl, _, _, _, _, _, rfl, hnw1, T.clN, T.nLinks, nF_links ad, _, rfl, ad.aL, d.network, i, rfl, ((NetAt.rd N.c O.wf).same M1.same).lnk, fun H2 p2 nas s2 LA => ?_⟩
    rw [downed_eq] at LA
    refine ⟨ad.aI, p2, Su200.setUp d.network i false, rfl, ⟨W1, s2 _ _ (M1.same _ _ N.c.ids), nas, LA⟩, fun H3 p3 hp3 M3 => ?_⟩
    have h13 := M3.same _ _ (s2 _ _ M1.at_)
    have t12 := Nat.le_trans (treeLinks_len (Su200.setUp d.network i false)) W1.linksLe
    -- return [..]
    refine ⟨_, rfl, _, rfl, p1, _, rfl, .inl (SqL.of h13), rfl, flat_nV _, .inr ⟨_, rfl, ?_⟩⟩
    refine ⟨_, rfl, _, _, rfl, .inl (SqL.of M3.at_), ?_⟩
    refine ⟨_, rfl, _, rfl, ⟨_, SqL.of M3.at_⟩, fun D hD => ?_⟩
    refine lc_list (K := K) (a := p3) (xs := nV (Su200.treeLinks (Su200.setUp d.network i false))) (fun j H' => Made H3 D (nV (((Su200.treeLinks (Su200.setUp d.network i false)).take j).filter fun x => !(Su200.isTreeLink d.network x))) H') (Made.start hD) (fun j H' _ M => SqL.of (M.same _ _ M3.at_)) (fun j z H' hz M => ?_) (fun H4 M4 => ?_)
    · obtain ⟨x, hx, rfl⟩ := nV_at hz
      refine ⟨rfl, _, rfl, _, rfl, p1, _, rfl, .inl (SqL.of (M.same _ _ h13)), rfl, flat_nV _, _, rfl, ?_⟩
      have ein : inV (iV x) (nV (Su200.treeLinks d.network)) = Su200.isTreeLink d.network x := by
        rw [inV_nV, contains_tree]
      refine ite2 (fun c => ?_) (fun c => ?_)
      · have c : (!inV (iV x) (nV (Su200.treeLinks d.network))) = true := c
        rw [ein] at c
        exact ⟨_, rfl, M.snoc hD (Nat.le_trans (take_filter_len j) (by omega)) (take_keep (p := fun x => !(Su200.isTreeLink d.network x)) hx c)⟩
      · have c : ¬ (!inV (iV x) (nV (Su200.treeLinks d.network))) = true := c
        rw [ein] at c
        exact M.eq (take_skip (p := fun x => !(Su200.isTreeLink d.network x)) hx c)
    · rw [List.take_of_length_le (by rw [nV_len]; exact Nat.le_refl _)] at M4
      refine ⟨_, _, rfl, .inl (SqL.of M4.at_), (by show 3 ≤ sizeLine; decide), fun p hp => ?_⟩
      have sm : Same H H4 := M1.same.trans (s2.trans (M3.same.trans M4.same))
      refine fin_same k N ((if_neg c1).trans (if_neg c2)) (sm.trans (same_upd hp)) (sm.free hp) upd_same ?_
      show [V.int (if inV (iV i) (nV (Su200.treeLinks d.network)) = true then 1 else 0), V.int ((nV (Su200.treeLinks (Su200.setUp d.network i false))).length : Int), V.int ((nV ((Su200.treeLinks (Su200.setUp d.network i false)).filter fun x => !(Su200.isTreeLink d.network x))).length : Int)] = _
      rw [nV_len, nV_len, inV_nV, contains_tree, int_bool]
      rfl
/-! ### topology -/
abbrev s_topology : Stmt := topS 67
theorem sc_topology : FnScope ["network", "found", "link"] ["network"] (defScope s_topology) := ⟨rfl, rfl, rfl, by decide +kernel, rfl, by decide +kernel, by decide +kernel⟩
def sp_topology (K : PySem.W.Frag) (CN CL : Addr) : Sp := spOp CN CL 0 fun _ => .topology
theorem ok_topology {f : Addr} {fd : FuncData} (F : Fun K "topology" "topology" s_topology f fd) (T : Txt K mg CN CL tM) : FnOk P w K mg base CX0 1 f fd ["network"] (sp_topology K CN CL) := by
  refine F.ok sc_topology (fun vs H Q E h => spOp.len h) (fun cdv A outer s H vs Q E hr h => ?_)
  · obtain ⟨ad, d, xs, rfl, hxs, N, O, k⟩ := h
    obtain rfl := len0 hxs
    have hu := hu_of hr
    have k : Post CN CL H ad d .topology Q := k
    obtain ⟨dx, hnw⟩ := id N.c.nw
    have hle := O.wf.idsLe
    have hll := O.wf.linksLe
    have hla : (ad.las.map V.ref).length = d.network.links.length := by
      rw [List.length_map]
      exact N.c.lks.each.len
    refine ⟨_, (pss_cons (ps_set (i := 1) sc_topology.nd rfl (Or.inl rfl) (pe_op op_cat (pe_op op_cat (pe_lst (pa_cons (pe_callB call_len_seq (by rfl) T.nLen PySem.boot_len (pa_cons (pe_fld (pv 0) rfl) pa_nil)) pa_nil)) (pe_fld (pv 0) rfl)) (pe_lst (pa_cons (pe_callB call_len_seq (by rfl) T.nLen PySem.boot_len (pa_cons (pe_fld (pv 0) rfl) pa_nil)) pa_nil))))
      (pss_cons (ps_for PassesOwn.never rfl (pi_list (pe_fld (pv 0) rfl)) (pg_name (i := 2) sc_topology.nd rfl (Or.inl rfl))
      (pss_one (ps_expr (pe_bm PySem.F.plainAttrs_list PySem.F.slot_list_extend PySem.F.type_list_extend mt_extend (pv 1) (pa_cons (pe_lst (pa_cons (pe_fld (pv 2) rfl) (pa_cons (pe_fld (pv 2) rfl) (pa_cons (pe_fld (pv 2) rfl) (pa_cons (pe_callTy call_int1 (by rfl) T.nInt (by decide +kernel) (pa_cons (pe_fld (pv 2) rfl) pa_nil)) pa_nil))))) pa_nil)))))
      (pss_one (ps_ret (pv 1))))), ?_⟩
    -- found = [len(ids)] + ids + [len(links)]
    refine ⟨_, rfl, _, _, _, _, _, rfl, hnw, T.clN, T.nIds, nF_ids ad, _, _, rfl, .inl (SqL.of N.c.ids), (by show 1 ≤ sizeLine; decide), fun p1 hp1 => ?_⟩
    have s1 := same_upd (o := .lst [.int ((nV d.network.bridgeIds).length : Int)]) hp1
    have hnw1 := s1 _ _ hnw
    refine ⟨_, rfl, _, _, _, _, _, rfl, hnw1, T.clN, T.nIds, nF_ids ad, p1, ad.aI, _, _, rfl, rfl, upd_same, s1 _ _ N.c.ids, by rw [nV_len]; exact size_of (m := 8) (by show 1 + _ ≤ 8; omega), fun p2 hp2 => ?_⟩
    have s2 := same_upd (o := .lst ([V.int ((nV d.network.bridgeIds).length : Int)] ++ nV d.network.bridgeIds)) hp2
    have hnw2 := s2 _ _ hnw1
    refine ⟨_, rfl, _, _, _, _, _, rfl, hnw2, T.clN, T.nLinks, nF_links ad, _, _, rfl, .inl (SqL.of (s2 _ _ (s1 _ _ N.c.lks.lst))), (by show 1 ≤ sizeLine; decide), fun p3 hp3 => ?_⟩
    have s3 := same_upd (o := .lst [V.int ((ad.las.map V.ref).length : Int)]) hp3
    refine ⟨p2, p3, _, _, rfl, rfl, s3 _ _ upd_same, upd_same, by rw [List.length_append, nV_len]; exact size_of (m := 9) (by show 1 + _ + 1 ≤ 9; omega), fun fo hfo => ?_⟩
    have s123 := s1.trans (s2.trans s3)
    have e0 : ([V.int ((nV d.network.bridgeIds).length : Int)] ++ nV d.network.bridgeIds) ++ [V.int ((ad.las.map V.ref).length : Int)] = nV (Su200.bridgeCount d.network :: (d.network.bridgeIds ++ d.network.links.length :: (d.network.links.take 0).flatMap lOut)) := by
      rw [nV_len, hla, show nV (Su200.bridgeCount d.network :: (d.network.bridgeIds ++ d.network.links.length :: (d.network.links.take 0).flatMap lOut)) = iV d.network.bridgeIds.length :: nV (d.network.bridgeIds ++ [d.network.links.length]) from rfl, nV_app]
      rfl
    have M0 : Made H fo (nV (Su200.bridgeCount d.network :: (d.network.bridgeIds ++ d.network.links.length :: (d.network.links.take 0).flatMap lOut))) (upd (upd (upd (upd H p1 (.lst [.int ((nV d.network.bridgeIds).length : Int)])) p2 (.lst ([V.int ((nV d.network.bridgeIds).length : Int)] ++ nV d.network.bridgeIds))) p3 (.lst [V.int ((ad.las.map V.ref).length : Int)])) fo
        (.lst (([V.int ((nV d.network.bridgeIds).length : Int)] ++ nV d.network.bridgeIds) ++ [V.int ((ad.las.map V.ref).length : Int)]))) := ⟨same_grow s123 (s123.free hfo), by rw [upd_same, e0]⟩
    have hfo0 : H fo = none := s123.free hfo
    have hnwf := M0.same _ _ hnw
    -- for link in network.links
    refine ⟨_, rfl, _, _, _, _, _, rfl, hnwf, T.clN, T.nLinks, nF_links ad, ad.aL, rfl, ⟨_, SqL.of (M0.same _ _ N.c.lks.lst)⟩, ?_⟩
    refine for_list (K := K) (a := ad.aL) (xs := ad.las.map V.ref) (fun i σ H' => ∃ v2, σ = [some (.ref ad.nw), some (.ref fo), v2] ∧ Made H fo (nV (Su200.bridgeCount d.network :: (d.network.bridgeIds ++ d.network.links.length :: (d.network.links.take i).flatMap lOut))) H')
      ⟨none, rfl, M0⟩ (fun i σ H' _ hP => ?_) (fun i z σ H' hz hP => ?_) (fun σ H' hP => ?_)
    · obtain ⟨_, _, M⟩ := hP
      exact SqL.of (M.same _ _ N.c.lks.lst)
    · obtain ⟨v2, rfl, M⟩ := hP
      have hi : i < d.network.links.length := by
        have := (List.getElem?_eq_some_iff.mp hz).1
        rw [hla] at this
        exact this
      obtain ⟨la, dl, g1, g2, g3⟩ := N.c.link hi
      have ez : z = .ref la := Option.some.inj (hz.symm.trans g2)
      subst ez
      have g4 := M.same _ _ g3
      refine ⟨_, rfl, .inl ⟨rfl, _, SqL.of M.at_⟩, ?_⟩
      refine ⟨_, rfl, _, _, _, _, _, rfl, g4, T.clL, T.nOne, lF_one _, ?_⟩
      refine ⟨_, rfl, _, _, _, _, _, rfl, g4, T.clL, T.nOther, lF_other _, ?_⟩
      refine ⟨_, rfl, _, _, _, _, _, rfl, g4, T.clL, T.nCost, lF_cost _, ?_⟩
      refine ⟨_, rfl, _, _, _, _, _, rfl, g4, T.clL, T.nUp, lF_up _, .inr ⟨_, rfl, ?_⟩⟩
      refine ⟨(by show 4 ≤ sizeLine; decide), fun pn hpn => ?_⟩
      have hzs : (upd H' pn (.lst [iV (lnk d.network i).endA, iV (lnk d.network i).endB, iV (lnk d.network i).cost, V.int (if (lnk d.network i).up = true then 1 else 0)])) pn = some (.lst (nV (lOut (lnk d.network i)))) := by
        rw [upd_same, int_bool]
        rfl
      obtain ⟨e1, e2, e3⟩ := M.ext (ys := nV (Su200.bridgeCount d.network :: (d.network.bridgeIds ++ d.network.links.length :: (d.network.links.take (i + 1)).flatMap lOut))) hfo0 (same_upd hpn) hzs (by
        rw [flat_more lOut (link_get hi), ← nV_app]
        simp) (by
        rw [nV_len, List.length_cons, List.length_append, List.length_cons, flat_len lOut 4 (fun _ => rfl), List.length_take]
        show _ + 4 ≤ 1000
        omega)
      exact ⟨fo, pn, _, _, rfl, rfl, e1, hzs, e2, _, rfl, e3⟩
    · obtain ⟨v2, rfl, M⟩ := hP
      rw [List.take_of_length_le (by rw [hla]; exact Nat.le_refl _)] at M
      refine ⟨_, rfl, fin_same k N rfl M.same hfo0 M.at_ ?_⟩
      rfl
end
end TB
end
section
namespace TB
open PySem PySem.Spec PyProof.Rows L2
theorem eqF {A B : Prop} {c : Nat} {k : Int} (h : ¬ (c : Int) = k) (q : B) : if decide (iV c = V.int k) = true then A else B := by
  rw [decide_eq_false (show ¬ iV c = V.int k from fun e => h (V.int.inj e))]
  exact iteF q
theorem eqT {A B : Prop} {c : Nat} {k : Int} (h : (c : Int) = k) (q : A) : if decide (iV c = V.int k) = true then A else B := by
  rw [decide_eq_true (show iV c = V.int k from congrArg V.int h)]
  exact iteT q
theorem leF {A B : Prop} {c : Nat} {k : Int} (h : ¬ (c : Int) ≤ k) (q : B) : if decide ((c : Int) ≤ k) = true then A else B := by
  rw [decide_eq_false h]
  exact iteF q
theorem leT {A B : Prop} {c : Nat} {k : Int} (h : (c : Int) ≤ k) (q : A) : if decide ((c : Int) ≤ k) = true then A else B := by
  rw [decide_eq_true h]
  exact iteT q
/-- a call handed on: its number, its arguments in a list -/
def spCall (CN CL : Addr) (lo hi : Nat) : Sp := fun vs H Q _ => ∃ (ad : Ad) (d : Lan) (c : Nat) (xs : List Nat) (op : Op) (aG : Addr), vs = [.ref ad.nw, iV c, .ref aG] ∧ H aG = some (.lst (nV xs)) ∧ opOf c xs = some op ∧ lo ≤ c ∧ c ≤ hi ∧ NetAt CN CL H ad d ∧ LanOk d ∧ Post CN CL H ad d op Q
theorem spCall.len {CN CL : Addr} {lo hi : Nat} {vs : List V} {H : Hp} {Q : VK} {E : XK} (h : spCall CN CL lo hi vs H Q E) : vs.length = 3 := by
  obtain ⟨ad, d, c, xs, op, aG, rfl, _⟩ := h
  rfl
section
variable {P : Program} {w : World} {K : PySem.W.Frag} {mg : Str → Option Value} {base : Heap} {CN CL tM : Addr}
theorem op_1 : ∀ {xs : List Nat} {op : Op}, opOf 1 xs = some op → ∃ x0 : Nat, xs = [x0] ∧ op = .addBridge x0
  | [], _, h => by cases h
  | [y0], _, h => ⟨_, rfl, (Option.some.inj h).symm⟩
  | [y0, y1], _, h => by cases h
  | [y0, y1, y2], _, h => by cases h
  | _ :: _ :: _ :: _ :: _, _, h => by cases h
theorem op_2 : ∀ {xs : List Nat} {op : Op}, opOf 2 xs = some op → ∃ x0 x1 x2 : Nat, xs = [x0, x1, x2] ∧ op = .addLink x0 x1 x2
  | [], _, h => by cases h
  | [y0], _, h => by cases h
  | [y0, y1], _, h => by cases h
  | [y0, y1, y2], _, h => ⟨_, _, _, rfl, (Option.some.inj h).symm⟩
  | _ :: _ :: _ :: _ :: _, _, h => by cases h
theorem op_3 : ∀ {xs : List Nat} {op : Op}, opOf 3 xs = some op → ∃ x0 : Nat, xs = [x0] ∧ op = .linkDown x0
  | [], _, h => by cases h
  | [y0], _, h => ⟨_, rfl, (Option.some.inj h).symm⟩
  | [y0, y1], _, h => by cases h
  | [y0, y1, y2], _, h => by cases h
  | _ :: _ :: _ :: _ :: _, _, h => by cases h
theorem op_4 : ∀ {xs : List Nat} {op : Op}, opOf 4 xs = some op → ∃ x0 : Nat, xs = [x0] ∧ op = .linkUp x0
  | [], _, h => by cases h
  | [y0], _, h => ⟨_, rfl, (Option.some.inj h).symm⟩
  | [y0, y1], _, h => by cases h
  | [y0, y1, y2], _, h => by cases h
  | _ :: _ :: _ :: _ :: _, _, h => by cases h
theorem op_5 : ∀ {xs : List Nat} {op : Op}, opOf 5 xs = some op → ∃ x0 x1 : Nat, xs = [x0, x1] ∧ op = .setCost x0 x1
  | [], _, h => by cases h
  | [y0], _, h => by cases h
  | [y0, y1], _, h => ⟨_, _, rfl, (Option.some.inj h).symm⟩
  | [y0, y1, y2], _, h => by cases h
  | _ :: _ :: _ :: _ :: _, _, h => by cases h
theorem op_6 : ∀ {xs : List Nat} {op : Op}, opOf 6 xs = some op → ∃ x0 x1 : Nat, xs = [x0, x1] ∧ op = .setBridgeId x0 x1
  | [], _, h => by cases h
  | [y0], _, h => by cases h
  | [y0, y1], _, h => ⟨_, _, rfl, (Option.some.inj h).symm⟩
  | [y0, y1, y2], _, h => by cases h
  | _ :: _ :: _ :: _ :: _, _, h => by cases h
theorem op_7 : ∀ {xs : List Nat} {op : Op}, opOf 7 xs = some op → ∃ x0 : Nat, xs = [x0] ∧ op = .rootPathsAfter x0
  | [], _, h => by cases h
  | [y0], _, h => ⟨_, rfl, (Option.some.inj h).symm⟩
  | [y0, y1], _, h => by cases h
  | [y0, y1, y2], _, h => by cases h
  | _ :: _ :: _ :: _ :: _, _, h => by cases h
theorem op_8 : ∀ {xs : List Nat} {op : Op}, opOf 8 xs = some op → xs = [] ∧ op = .roundsToConverge
  | [], _, h => ⟨rfl, (Option.some.inj h).symm⟩
  | [y0], _, h => by cases h
  | [y0, y1], _, h => by cases h
  | [y0, y1, y2], _, h => by cases h
  | _ :: _ :: _ :: _ :: _, _, h => by cases h
theorem op_9 : ∀ {xs : List Nat} {op : Op}, opOf 9 xs = some op → xs = [] ∧ op = .treeLinks
  | [], _, h => ⟨rfl, (Option.some.inj h).symm⟩
  | [y0], _, h => by cases h
  | [y0, y1], _, h => by cases h
  | [y0, y1, y2], _, h => by cases h
  | _ :: _ :: _ :: _ :: _, _, h => by cases h
theorem op_10 : ∀ {xs : List Nat} {op : Op}, opOf 10 xs = some op → ∃ x0 : Nat, xs = [x0] ∧ op = .rootPath x0
  | [], _, h => by cases h
  | [y0], _, h => ⟨_, rfl, (Option.some.inj h).symm⟩
  | [y0, y1], _, h => by cases h
  | [y0, y1, y2], _, h => by cases h
  | _ :: _ :: _ :: _ :: _, _, h => by cases h
theorem op_11 : ∀ {xs : List Nat} {op : Op}, opOf 11 xs = some op → ∃ x0 x1 : Nat, xs = [x0, x1] ∧ op = .treePath x0 x1
  | [], _, h => by cases h
  | [y0], _, h => by cases h
  | [y0, y1], _, h => ⟨_, _, rfl, (Option.some.inj h).symm⟩
  | [y0, y1, y2], _, h => by cases h
  | _ :: _ :: _ :: _ :: _, _, h => by cases h
theorem op_12 : ∀ {xs : List Nat} {op : Op}, opOf 12 xs = some op → ∃ x0 : Nat, xs = [x0] ∧ op = .connectedBridges x0
  | [], _, h => by cases h
  | [y0], _, h => ⟨_, rfl, (Option.some.inj h).symm⟩
  | [y0, y1], _, h => by cases h
  | [y0, y1, y2], _, h => by cases h
  | _ :: _ :: _ :: _ :: _, _, h => by cases h
theorem op_13 : ∀ {xs : List Nat} {op : Op}, opOf 13 xs = some op → ∃ x0 x1 : Nat, xs = [x0, x1] ∧ op = .placeHost x0 x1
  | [], _, h => by cases h
  | [y0], _, h => by cases h
  | [y0, y1], _, h => ⟨_, _, rfl, (Option.some.inj h).symm⟩
  | [y0, y1, y2], _, h => by cases h
  | _ :: _ :: _ :: _ :: _, _, h => by cases h
theorem op_14 : ∀ {xs : List Nat} {op : Op}, opOf 14 xs = some op → ∃ x0 x1 : Nat, xs = [x0, x1] ∧ op = .sendFrame x0 x1
  | [], _, h => by cases h
  | [y0], _, h => by cases h
  | [y0, y1], _, h => ⟨_, _, rfl, (Option.some.inj h).symm⟩
  | [y0, y1, y2], _, h => by cases h
  | _ :: _ :: _ :: _ :: _, _, h => by cases h
theorem op_15 : ∀ {xs : List Nat} {op : Op}, opOf 15 xs = some op → ∃ x0 : Nat, xs = [x0] ∧ op = .learnedEntries x0
  | [], _, h => by cases h
  | [y0], _, h => ⟨_, rfl, (Option.some.inj h).symm⟩
  | [y0, y1], _, h => by cases h
  | [y0, y1, y2], _, h => by cases h
  | _ :: _ :: _ :: _ :: _, _, h => by cases h
theorem op_16 : ∀ {xs : List Nat} {op : Op}, opOf 16 xs = some op → xs = [] ∧ op = .flushTables
  | [], _, h => ⟨rfl, (Option.some.inj h).symm⟩
  | [y0], _, h => by cases h
  | [y0, y1], _, h => by cases h
  | [y0, y1, y2], _, h => by cases h
  | _ :: _ :: _ :: _ :: _, _, h => by cases h
theorem op_17 : ∀ {xs : List Nat} {op : Op}, opOf 17 xs = some op → ∃ x0 : Nat, xs = [x0] ∧ op = .previewLinkDown x0
  | [], _, h => by cases h
  | [y0], _, h => ⟨_, rfl, (Option.some.inj h).symm⟩
  | [y0, y1], _, h => by cases h
  | [y0, y1, y2], _, h => by cases h
  | _ :: _ :: _ :: _ :: _, _, h => by cases h
theorem op_18 : ∀ {xs : List Nat} {op : Op}, opOf 18 xs = some op → xs = [] ∧ op = .topology
  | [], _, h => ⟨rfl, (Option.some.inj h).symm⟩
  | [y0], _, h => by cases h
  | [y0, y1], _, h => by cases h
  | [y0, y1, y2], _, h => by cases h
  | _ :: _ :: _ :: _ :: _, _, h => by cases h
abbrev s_changed : Stmt := topS 71
theorem sc_changed : FnScope ["network", "call", "given"] ["network", "call", "given"] (defScope s_changed) := ⟨rfl, rfl, rfl, by decide +kernel, rfl, by decide +kernel, by decide +kernel⟩
def sp_changed (K : PySem.W.Frag) (CN CL : Addr) : Sp := spCall CN CL 1 6
theorem ok_changed {f : Addr} {fd : FuncData} (F : Fun K "changed" "changed" s_changed f fd) (T : Txt K mg CN CL tM) {f_set_bridge_id : Addr} {fd_set_bridge_id : FuncData} (c_set_bridge_id : Cal P w K mg base "set_bridge_id" 2 ["network", "bridge", "bridge_id"] (sp_set_bridge_id K CN CL) f_set_bridge_id fd_set_bridge_id) {f_add_bridge : Addr} {fd_add_bridge : FuncData} (c_add_bridge : Cal P w K mg base "add_bridge" 2 ["network", "bridge_id"] (sp_add_bridge K CN CL) f_add_bridge fd_add_bridge) {f_add_link : Addr} {fd_add_link : FuncData} (c_add_link : Cal P w K mg base "add_link" 3 ["network", "one", "other", "cost"] (sp_add_link K CN CL) f_add_link fd_add_link) {f_link_down : Addr} {fd_link_down : FuncData} (c_link_down : Cal P w K mg base "link_down" 8 ["network", "number"] (sp_link_down K CN CL) f_link_down fd_link_down) {f_link_up : Addr} {fd_link_up : FuncData} (c_link_up : Cal P w K mg base "link_up" 8 ["network", "number"] (sp_link_up K CN CL) f_link_up fd_link_up) {f_set_cost : Addr} {fd_set_cost : FuncData} (c_set_cost : Cal P w K mg base "set_cost" 2 ["network", "number", "cost"] (sp_set_cost K CN CL) f_set_cost fd_set_cost) : FnOk P w K mg base CX0 9 f fd ["network", "call", "given"] (sp_changed K CN CL) := by
  refine F.ok sc_changed (fun vs H Q E h => spCall.len h) (fun cdv A outer s H vs Q E hr h => ?_)
  · obtain ⟨ad, d, c, xs, op, aG, rfl, hG, hop, hlo, hhi, N, O, k⟩ := h
    have hu := hu_of hr
    refine ⟨_, (pss_cons (ps_if (pt_cmpR op_eq (pv 1) pe_int (nomark _))
      (pss_one (ps_ret (pe_call c_add_bridge.ok (hr.mono (by decide)) (by rfl) c_add_bridge.mg c_add_bridge.kp c_add_bridge.b .nil pass0 (pa_cons (pv 0) (pa_cons (pe_ix ix_list (pv 2) pe_int (fun _ _ => rfl)) pa_nil)))))
      pss_nil)
      (pss_cons (ps_if (pt_cmpR op_eq (pv 1) pe_int (nomark _))
      (pss_one (ps_ret (pe_call c_add_link.ok (hr.mono (by decide)) (by rfl) c_add_link.mg c_add_link.kp c_add_link.b .nil pass0 (pa_cons (pv 0) (pa_cons (pe_ix ix_list (pv 2) pe_int (fun _ _ => rfl)) (pa_cons (pe_ix ix_list (pv 2) pe_int (fun _ _ => rfl)) (pa_cons (pe_ix ix_list (pv 2) pe_int (fun _ _ => rfl)) pa_nil)))))))
      pss_nil)
      (pss_cons (ps_if (pt_cmpR op_eq (pv 1) pe_int (nomark _))
      (pss_one (ps_ret (pe_call c_link_down.ok (hr.mono (by decide)) (by rfl) c_link_down.mg c_link_down.kp c_link_down.b .nil pass0 (pa_cons (pv 0) (pa_cons (pe_ix ix_list (pv 2) pe_int (fun _ _ => rfl)) pa_nil)))))
      pss_nil)
      (pss_cons (ps_if (pt_cmpR op_eq (pv 1) pe_int (nomark _))
      (pss_one (ps_ret (pe_call c_link_up.ok (hr.mono (by decide)) (by rfl) c_link_up.mg c_link_up.kp c_link_up.b .nil pass0 (pa_cons (pv 0) (pa_cons (pe_ix ix_list (pv 2) pe_int (fun _ _ => rfl)) pa_nil)))))
      pss_nil)
      (pss_cons (ps_if (pt_cmpR op_eq (pv 1) pe_int (nomark _))
      (pss_one (ps_ret (pe_call c_set_cost.ok (hr.mono (by decide)) (by rfl) c_set_cost.mg c_set_cost.kp c_set_cost.b .nil pass0 (pa_cons (pv 0) (pa_cons (pe_ix ix_list (pv 2) pe_int (fun _ _ => rfl)) (pa_cons (pe_ix ix_list (pv 2) pe_int (fun _ _ => rfl)) pa_nil))))))
      pss_nil)
      (pss_one (ps_ret (pe_call c_set_bridge_id.ok (hr.mono (by decide)) (by rfl) c_set_bridge_id.mg c_set_bridge_id.kp c_set_bridge_id.b .nil pass0 (pa_cons (pv 0) (pa_cons (pe_ix ix_list (pv 2) pe_int (fun _ _ => rfl)) (pa_cons (pe_ix ix_list (pv 2) pe_int (fun _ _ => rfl)) pa_nil))))))))))), ?_⟩
    have hc : c = 1 ∨ c = 2 ∨ c = 3 ∨ c = 4 ∨ c = 5 ∨ c = 6 := by omega
    rcases hc with rfl | rfl | rfl | rfl | rfl | rfl
    · obtain ⟨x0, rfl, rfl⟩ := op_1 hop
      refine ⟨_, rfl, rfl, _, rfl, eqT (by decide) ?_⟩
      exact ⟨_, rfl, _, rfl, _, _, _, _, rfl, rfl, SqL.of hG, at_nat (j := 0) rfl, ad, d, [x0], rfl, rfl, N, O, k⟩
    · obtain ⟨x0, x1, x2, rfl, rfl⟩ := op_2 hop
      refine ⟨_, rfl, rfl, _, rfl, eqF (by decide) ?_⟩
      refine ⟨_, rfl, rfl, _, rfl, eqT (by decide) ?_⟩
      exact ⟨_, rfl, _, rfl, _, _, _, _, rfl, rfl, SqL.of hG, at_nat (j := 0) rfl, _, rfl, _, _, _, _, rfl, rfl, SqL.of hG, at_nat (j := 1) rfl, _, rfl, _, _, _, _, rfl, rfl, SqL.of hG, at_nat (j := 2) rfl, ad, d, [x0, x1, x2], rfl, rfl, N, O, k⟩
    · obtain ⟨x0, rfl, rfl⟩ := op_3 hop
      refine ⟨_, rfl, rfl, _, rfl, eqF (by decide) ?_⟩
      refine ⟨_, rfl, rfl, _, rfl, eqF (by decide) ?_⟩
      refine ⟨_, rfl, rfl, _, rfl, eqT (by decide) ?_⟩
      exact ⟨_, rfl, _, rfl, _, _, _, _, rfl, rfl, SqL.of hG, at_nat (j := 0) rfl, ad, d, [x0], rfl, rfl, N, O, k⟩
    · obtain ⟨x0, rfl, rfl⟩ := op_4 hop
      refine ⟨_, rfl, rfl, _, rfl, eqF (by decide) ?_⟩
      refine ⟨_, rfl, rfl, _, rfl, eqF (by decide) ?_⟩
      refine ⟨_, rfl, rfl, _, rfl, eqF (by decide) ?_⟩
      refine ⟨_, rfl, rfl, _, rfl, eqT (by decide) ?_⟩
      exact ⟨_, rfl, _, rfl, _, _, _, _, rfl, rfl, SqL.of hG, at_nat (j := 0) rfl, ad, d, [x0], rfl, rfl, N, O, k⟩
    · obtain ⟨x0, x1, rfl, rfl⟩ := op_5 hop
      refine ⟨_, rfl, rfl, _, rfl, eqF (by decide) ?_⟩
      refine ⟨_, rfl, rfl, _, rfl, eqF (by decide) ?_⟩
      refine ⟨_, rfl, rfl, _, rfl, eqF (by decide) ?_⟩
      refine ⟨_, rfl, rfl, _, rfl, eqF (by decide) ?_⟩
      refine ⟨_, rfl, rfl, _, rfl, eqT (by decide) ?_⟩
      exact ⟨_, rfl, _, rfl, _, _, _, _, rfl, rfl, SqL.of hG, at_nat (j := 0) rfl, _, rfl, _, _, _, _, rfl, rfl, SqL.of hG, at_nat (j := 1) rfl, ad, d, [x0, x1], rfl, rfl, N, O, k⟩
    · obtain ⟨x0, x1, rfl, rfl⟩ := op_6 hop
      refine ⟨_, rfl, rfl, _, rfl, eqF (by decide) ?_⟩
      refine ⟨_, rfl, rfl, _, rfl, eqF (by decide) ?_⟩
      refine ⟨_, rfl, rfl, _, rfl, eqF (by decide) ?_⟩
      refine ⟨_, rfl, rfl, _, rfl, eqF (by decide) ?_⟩
      refine ⟨_, rfl, rfl, _, rfl, eqF (by decide) ?_⟩
      exact ⟨_, rfl, _, rfl, _, _, _, _, rfl, rfl, SqL.of hG, at_nat (j := 0) rfl, _, rfl, _, _, _, _, rfl, rfl, SqL.of hG, at_nat (j := 1) rfl, ad, d, [x0, x1], rfl, rfl, N, O, k⟩
abbrev s_told : Stmt := topS 72
theorem sc_told : FnScope ["network", "call", "given"] ["network", "call", "given"] (defScope s_told) := ⟨rfl, rfl, rfl, by decide +kernel, rfl, by decide +kernel, by decide +kernel⟩
def sp_told (K : PySem.W.Frag) (CN CL : Addr) : Sp := spCall CN CL 7 12
theorem ok_told {f : Addr} {fd : FuncData} (F : Fun K "told" "told" s_told f fd) (T : Txt K mg CN CL tM) {f_bridges_connected_to : Addr} {fd_bridges_connected_to : FuncData} (c_bridges_connected_to : Cal P w K mg base "bridges_connected_to" 6 ["network", "bridge"] (sp_bridges_connected_to K CN CL) f_bridges_connected_to fd_bridges_connected_to) {f_root_paths_after : Addr} {fd_root_paths_after : FuncData} (c_root_paths_after : Cal P w K mg base "root_paths_after" 6 ["network", "rounds"] (sp_root_paths_after K CN CL) f_root_paths_after fd_root_paths_after) {f_needed_rounds : Addr} {fd_needed_rounds : FuncData} (c_needed_rounds : Cal P w K mg base "needed_rounds" 6 ["network"] (sp_needed_rounds K CN CL) f_needed_rounds fd_needed_rounds) {f_all_tree_links : Addr} {fd_all_tree_links : FuncData} (c_all_tree_links : Cal P w K mg base "all_tree_links" 8 ["network"] (sp_all_tree_links K CN CL) f_all_tree_links fd_all_tree_links) {f_root_path : Addr} {fd_root_path : FuncData} (c_root_path : Cal P w K mg base "root_path" 7 ["network", "bridge"] (sp_root_path K CN CL) f_root_path fd_root_path) {f_path_between : Addr} {fd_path_between : FuncData} (c_path_between : Cal P w K mg base "path_between" 9 ["network", "start", "goal"] (sp_path_between K CN CL) f_path_between fd_path_between) : FnOk P w K mg base CX0 10 f fd ["network", "call", "given"] (sp_told K CN CL) := by
  refine F.ok sc_told (fun vs H Q E h => spCall.len h) (fun cdv A outer s H vs Q E hr h => ?_)
  · obtain ⟨ad, d, c, xs, op, aG, rfl, hG, hop, hlo, hhi, N, O, k⟩ := h
    have hu := hu_of hr
    refine ⟨_, (pss_cons (ps_if (pt_cmpR op_eq (pv 1) pe_int (nomark _))
      (pss_one (ps_ret (pe_call c_root_paths_after.ok (hr.mono (by decide)) (by rfl) c_root_paths_after.mg c_root_paths_after.kp c_root_paths_after.b .nil pass0 (pa_cons (pv 0) (pa_cons (pe_ix ix_list (pv 2) pe_int (fun _ _ => rfl)) pa_nil)))))
      pss_nil)
      (pss_cons (ps_if (pt_cmpR op_eq (pv 1) pe_int (nomark _))
      (pss_one (ps_ret (pe_call c_needed_rounds.ok (hr.mono (by decide)) (by rfl) c_needed_rounds.mg c_needed_rounds.kp c_needed_rounds.b .nil pass0 (pa_cons (pv 0) pa_nil))))
      pss_nil)
      (pss_cons (ps_if (pt_cmpR op_eq (pv 1) pe_int (nomark _))
      (pss_one (ps_ret (pe_call c_all_tree_links.ok (hr.mono (by decide)) (by rfl) c_all_tree_links.mg c_all_tree_links.kp c_all_tree_links.b .nil pass0 (pa_cons (pv 0) pa_nil))))
      pss_nil)
      (pss_cons (ps_if (pt_cmpR op_eq (pv 1) pe_int (nomark _))
      (pss_one (ps_ret (pe_call c_root_path.ok (hr.mono (by decide)) (by rfl) c_root_path.mg c_root_path.kp c_root_path.b .nil pass0 (pa_cons (pv 0) (pa_cons (pe_ix ix_list (pv 2) pe_int (fun _ _ => rfl)) pa_nil)))))
      pss_nil)
      (pss_cons (ps_if (pt_cmpR op_eq (pv 1) pe_int (nomark _))
      (pss_one (ps_ret (pe_call c_path_between.ok (hr.mono (by decide)) (by rfl) c_path_between.mg c_path_between.kp c_path_between.b .nil pass0 (pa_cons (pv 0) (pa_cons (pe_ix ix_list (pv 2) pe_int (fun _ _ => rfl)) (pa_cons (pe_ix ix_list (pv 2) pe_int (fun _ _ => rfl)) pa_nil))))))
      pss_nil)
      (pss_one (ps_ret (pe_call c_bridges_connected_to.ok (hr.mono (by decide)) (by rfl) c_bridges_connected_to.mg c_bridges_connected_to.kp c_bridges_connected_to.b .nil pass0 (pa_cons (pv 0) (pa_cons (pe_ix ix_list (pv 2) pe_int (fun _ _ => rfl)) pa_nil)))))))))), ?_⟩
    have hc : c = 7 ∨ c = 8 ∨ c = 9 ∨ c = 10 ∨ c = 11 ∨ c = 12 := by omega
    rcases hc with rfl | rfl | rfl | rfl | rfl | rfl
    · obtain ⟨x0, rfl, rfl⟩ := op_7 hop
      refine ⟨_, rfl, rfl, _, rfl, eqT (by decide) ?_⟩
      exact ⟨_, rfl, _, rfl, _, _, _, _, rfl, rfl, SqL.of hG, at_nat (j := 0) rfl, ad, d, [x0], rfl, rfl, N, O, k⟩
    · obtain ⟨rfl, rfl⟩ := op_8 hop
      refine ⟨_, rfl, rfl, _, rfl, eqF (by decide) ?_⟩
      refine ⟨_, rfl, rfl, _, rfl, eqT (by decide) ?_⟩
      exact ⟨_, rfl, ad, d, [], rfl, rfl, N, O, k⟩
    · obtain ⟨rfl, rfl⟩ := op_9 hop
      refine ⟨_, rfl, rfl, _, rfl, eqF (by decide) ?_⟩
      refine ⟨_, rfl, rfl, _, rfl, eqF (by decide) ?_⟩
      refine ⟨_, rfl, rfl, _, rfl, eqT (by decide) ?_⟩
      exact ⟨_, rfl, ad, d, [], rfl, rfl, N, O, k⟩
    · obtain ⟨x0, rfl, rfl⟩ := op_10 hop
      refine ⟨_, rfl, rfl, _, rfl, eqF (by decide) ?_⟩
      refine ⟨_, rfl, rfl, _, rfl, eqF (by decide) ?_⟩
      refine ⟨_, rfl, rfl, _, rfl, eqF (by decide) ?_⟩
      refine ⟨_, rfl, rfl, _, rfl, eqT (by decide) ?_⟩
      exact ⟨_, rfl, _, rfl, _, _, _, _, rfl, rfl, SqL.of hG, at_nat (j := 0) rfl, ad, d, [x0], rfl, rfl, N, O, k⟩
    · obtain ⟨x0, x1, rfl, rfl⟩ := op_11 hop
      refine ⟨_, rfl, rfl, _, rfl, eqF (by decide) ?_⟩
      refine ⟨_, rfl, rfl, _, rfl, eqF (by decide) ?_⟩
      refine ⟨_, rfl, rfl, _, rfl, eqF (by decide) ?_⟩
      refine ⟨_, rfl, rfl, _, rfl, eqF (by decide) ?_⟩
      refine ⟨_, rfl, rfl, _, rfl, eqT (by decide) ?_⟩
      exact ⟨_, rfl, _, rfl, _, _, _, _, rfl, rfl, SqL.of hG, at_nat (j := 0) rfl, _, rfl, _, _, _, _, rfl, rfl, SqL.of hG, at_nat (j := 1) rfl, ad, d, [x0, x1], rfl, rfl, N, O, k⟩
    · obtain ⟨x0, rfl, rfl⟩ := op_12 hop
      refine ⟨_, rfl, rfl, _, rfl, eqF (by decide) ?_⟩
      refine ⟨_, rfl, rfl, _, rfl, eqF (by decide) ?_⟩
      refine ⟨_, rfl, rfl, _, rfl, eqF (by decide) ?_⟩
      refine ⟨_, rfl, rfl, _, rfl, eqF (by decide) ?_⟩
      refine ⟨_, rfl, rfl, _, rfl, eqF (by decide) ?_⟩
      exact ⟨_, rfl, _, rfl, _, _, _, _, rfl, rfl, SqL.of hG, at_nat (j := 0) rfl, ad, d, [x0], rfl, rfl, N, O, k⟩
abbrev s_forwarded : Stmt := topS 73
theorem sc_forwarded : FnScope ["network", "call", "given"] ["network", "call", "given"] (defScope s_forwarded) := ⟨rfl, rfl, rfl, by decide +kernel, rfl, by decide +kernel, by decide +kernel⟩
def sp_forwarded (K : PySem.W.Frag) (CN CL : Addr) : Sp := spCall CN CL 13 18
theorem ok_forwarded {f : Addr} {fd : FuncData} (F : Fun K "forwarded" "forwarded" s_forwarded f fd) (T : Txt K mg CN CL tM) {f_topology : Addr} {fd_topology : FuncData} (c_topology : Cal P w K mg base "topology" 1 ["network"] (sp_topology K CN CL) f_topology fd_topology) {f_place_host : Addr} {fd_place_host : FuncData} (c_place_host : Cal P w K mg base "place_host" 2 ["network", "host", "bridge"] (sp_place_host K CN CL) f_place_host fd_place_host) {f_send_frame : Addr} {fd_send_frame : FuncData} (c_send_frame : Cal P w K mg base "send_frame" 8 ["network", "source", "destination"] (sp_send_frame K CN CL) f_send_frame fd_send_frame) {f_learned_entries : Addr} {fd_learned_entries : FuncData} (c_learned_entries : Cal P w K mg base "learned_entries" 2 ["network", "host"] (sp_learned_entries K CN CL) f_learned_entries fd_learned_entries) {f_flush_tables : Addr} {fd_flush_tables : FuncData} (c_flush_tables : Cal P w K mg base "flush_tables" 2 ["network"] (sp_flush_tables K CN CL) f_flush_tables fd_flush_tables) {f_preview_link_down : Addr} {fd_preview_link_down : FuncData} (c_preview_link_down : Cal P w K mg base "preview_link_down" 8 ["network", "number"] (sp_preview_link_down K CN CL) f_preview_link_down fd_preview_link_down) : FnOk P w K mg base CX0 9 f fd ["network", "call", "given"] (sp_forwarded K CN CL) := by
  refine F.ok sc_forwarded (fun vs H Q E h => spCall.len h) (fun cdv A outer s H vs Q E hr h => ?_)
  · obtain ⟨ad, d, c, xs, op, aG, rfl, hG, hop, hlo, hhi, N, O, k⟩ := h
    have hu := hu_of hr
    refine ⟨_, (pss_cons (ps_if (pt_cmpR op_eq (pv 1) pe_int (nomark _))
      (pss_one (ps_ret (pe_call c_place_host.ok (hr.mono (by decide)) (by rfl) c_place_host.mg c_place_host.kp c_place_host.b .nil pass0 (pa_cons (pv 0) (pa_cons (pe_ix ix_list (pv 2) pe_int (fun _ _ => rfl)) (pa_cons (pe_ix ix_list (pv 2) pe_int (fun _ _ => rfl)) pa_nil))))))
      pss_nil)
      (pss_cons (ps_if (pt_cmpR op_eq (pv 1) pe_int (nomark _))
      (pss_one (ps_ret (pe_call c_send_frame.ok (hr.mono (by decide)) (by rfl) c_send_frame.mg c_send_frame.kp c_send_frame.b .nil pass0 (pa_cons (pv 0) (pa_cons (pe_ix ix_list (pv 2) pe_int (fun _ _ => rfl)) (pa_cons (pe_ix ix_list (pv 2) pe_int (fun _ _ => rfl)) pa_nil))))))
      pss_nil)
      (pss_cons (ps_if (pt_cmpR op_eq (pv 1) pe_int (nomark _))
      (pss_one (ps_ret (pe_call c_learned_entries.ok (hr.mono (by decide)) (by rfl) c_learned_entries.mg c_learned_entries.kp c_learned_entries.b .nil pass0 (pa_cons (pv 0) (pa_cons (pe_ix ix_list (pv 2) pe_int (fun _ _ => rfl)) pa_nil)))))
      pss_nil)
      (pss_cons (ps_if (pt_cmpR op_eq (pv 1) pe_int (nomark _))
      (pss_one (ps_ret (pe_call c_flush_tables.ok (hr.mono (by decide)) (by rfl) c_flush_tables.mg c_flush_tables.kp c_flush_tables.b .nil pass0 (pa_cons (pv 0) pa_nil))))
      pss_nil)
      (pss_cons (ps_if (pt_cmpR op_eq (pv 1) pe_int (nomark _))
      (pss_one (ps_ret (pe_call c_preview_link_down.ok (hr.mono (by decide)) (by rfl) c_preview_link_down.mg c_preview_link_down.kp c_preview_link_down.b .nil pass0 (pa_cons (pv 0) (pa_cons (pe_ix ix_list (pv 2) pe_int (fun _ _ => rfl)) pa_nil)))))
      pss_nil)
      (pss_one (ps_ret (pe_call c_topology.ok (hr.mono (by decide)) (by rfl) c_topology.mg c_topology.kp c_topology.b .nil pass0 (pa_cons (pv 0) pa_nil))))))))), ?_⟩
    have hc : c = 13 ∨ c = 14 ∨ c = 15 ∨ c = 16 ∨ c = 17 ∨ c = 18 := by omega
    rcases hc with rfl | rfl | rfl | rfl | rfl | rfl
    · obtain ⟨x0, x1, rfl, rfl⟩ := op_13 hop
      refine ⟨_, rfl, rfl, _, rfl, eqT (by decide) ?_⟩
      exact ⟨_, rfl, _, rfl, _, _, _, _, rfl, rfl, SqL.of hG, at_nat (j := 0) rfl, _, rfl, _, _, _, _, rfl, rfl, SqL.of hG, at_nat (j := 1) rfl, ad, d, [x0, x1], rfl, rfl, N, O, k⟩
    · obtain ⟨x0, x1, rfl, rfl⟩ := op_14 hop
      refine ⟨_, rfl, rfl, _, rfl, eqF (by decide) ?_⟩
      refine ⟨_, rfl, rfl, _, rfl, eqT (by decide) ?_⟩
      exact ⟨_, rfl, _, rfl, _, _, _, _, rfl, rfl, SqL.of hG, at_nat (j := 0) rfl, _, rfl, _, _, _, _, rfl, rfl, SqL.of hG, at_nat (j := 1) rfl, ad, d, [x0, x1], rfl, rfl, N, O, k⟩
    · obtain ⟨x0, rfl, rfl⟩ := op_15 hop
      refine ⟨_, rfl, rfl, _, rfl, eqF (by decide) ?_⟩
      refine ⟨_, rfl, rfl, _, rfl, eqF (by decide) ?_⟩
      refine ⟨_, rfl, rfl, _, rfl, eqT (by decide) ?_⟩
      exact ⟨_, rfl, _, rfl, _, _, _, _, rfl, rfl, SqL.of hG, at_nat (j := 0) rfl, ad, d, [x0], rfl, rfl, N, O, k⟩
    · obtain ⟨rfl, rfl⟩ := op_16 hop
      refine ⟨_, rfl, rfl, _, rfl, eqF (by decide) ?_⟩
      refine ⟨_, rfl, rfl, _, rfl, eqF (by decide) ?_⟩
      refine ⟨_, rfl, rfl, _, rfl, eqF (by decide) ?_⟩
      refine ⟨_, rfl, rfl, _, rfl, eqT (by decide) ?_⟩
      exact ⟨_, rfl, ad, d, [], rfl, rfl, N, O, k⟩
    · obtain ⟨x0, rfl, rfl⟩ := op_17 hop
      refine ⟨_, rfl, rfl, _, rfl, eqF (by decide) ?_⟩
      refine ⟨_, rfl, rfl, _, rfl, eqF (by decide) ?_⟩
      refine ⟨_, rfl, rfl, _, rfl, eqF (by decide) ?_⟩
      refine ⟨_, rfl, rfl, _, rfl, eqF (by decide) ?_⟩
      refine ⟨_, rfl, rfl, _, rfl, eqT (by decide) ?_⟩
      exact ⟨_, rfl, _, rfl, _, _, _, _, rfl, rfl, SqL.of hG, at_nat (j := 0) rfl, ad, d, [x0], rfl, rfl, N, O, k⟩
    · obtain ⟨rfl, rfl⟩ := op_18 hop
      refine ⟨_, rfl, rfl, _, rfl, eqF (by decide) ?_⟩
      refine ⟨_, rfl, rfl, _, rfl, eqF (by decide) ?_⟩
      refine ⟨_, rfl, rfl, _, rfl, eqF (by decide) ?_⟩
      refine ⟨_, rfl, rfl, _, rfl, eqF (by decide) ?_⟩
      refine ⟨_, rfl, rfl, _, rfl, eqF (by decide) ?_⟩
      exact ⟨_, rfl, ad, d, [], rfl, rfl, N, O, k⟩
abbrev s_answer : Stmt := topS 74
theorem sc_answer : FnScope ["network", "call", "given"] ["network", "call", "given"] (defScope s_answer) := ⟨rfl, rfl, rfl, by decide +kernel, rfl, by decide +kernel, by decide +kernel⟩
def sp_answer (K : PySem.W.Frag) (CN CL : Addr) : Sp := spCall CN CL 1 18
theorem ok_answer {f : Addr} {fd : FuncData} (F : Fun K "answer" "answer" s_answer f fd) (T : Txt K mg CN CL tM) {f_changed : Addr} {fd_changed : FuncData} (c_changed : Cal P w K mg base "changed" 9 ["network", "call", "given"] (sp_changed K CN CL) f_changed fd_changed) {f_told : Addr} {fd_told : FuncData} (c_told : Cal P w K mg base "told" 10 ["network", "call", "given"] (sp_told K CN CL) f_told fd_told) {f_forwarded : Addr} {fd_forwarded : FuncData} (c_forwarded : Cal P w K mg base "forwarded" 9 ["network", "call", "given"] (sp_forwarded K CN CL) f_forwarded fd_forwarded) : FnOk P w K mg base CX0 11 f fd ["network", "call", "given"] (sp_answer K CN CL) := by
  refine F.ok sc_answer (fun vs H Q E h => spCall.len h) (fun cdv A outer s H vs Q E hr h => ?_)
  · obtain ⟨ad, d, c, xs, op, aG, rfl, hG, hop, hlo, hhi, N, O, k⟩ := h
    have hu := hu_of hr
    refine ⟨_, (pss_cons (ps_if (pt_cmpR op_le (pv 1) pe_int (nomark _))
      (pss_one (ps_ret (pe_call c_changed.ok (hr.mono (by decide)) (by rfl) c_changed.mg c_changed.kp c_changed.b .nil pass0 (pa_cons (pv 0) (pa_cons (pv 1) (pa_cons (pv 2) pa_nil))))))
      pss_nil)
      (pss_one (ps_ret (pe_ifExp (pt_cmpR op_le (pv 1) pe_int (nomark _)) (pe_call c_told.ok (hr.mono (by decide)) (by rfl) c_told.mg c_told.kp c_told.b .nil pass0 (pa_cons (pv 0) (pa_cons (pv 1) (pa_cons (pv 2) pa_nil)))) (pe_call c_forwarded.ok (hr.mono (by decide)) (by rfl) c_forwarded.mg c_forwarded.kp c_forwarded.b .nil pass0 (pa_cons (pv 0) (pa_cons (pv 1) (pa_cons (pv 2) pa_nil)))))))), ?_⟩
    by_cases c6 : c ≤ 6
    · refine ⟨_, rfl, _, _, rfl, rfl, _, rfl, leT (by omega) ?_⟩
      exact ⟨_, rfl, _, rfl, _, rfl, ad, d, c, xs, op, aG, rfl, hG, hop, hlo, c6, N, O, k⟩
    · refine ⟨_, rfl, _, _, rfl, rfl, _, rfl, leF (by omega) ?_⟩
      by_cases c12 : c ≤ 12
      · refine ⟨_, rfl, _, _, rfl, rfl, _, rfl, leT (by omega) ?_⟩
        exact ⟨_, rfl, _, rfl, _, rfl, ad, d, c, xs, op, aG, rfl, hG, hop, by omega, c12, N, O, k⟩
      · refine ⟨_, rfl, _, _, rfl, rfl, _, rfl, leF (by omega) ?_⟩
        exact ⟨_, rfl, _, rfl, _, rfl, ad, d, c, xs, op, aG, rfl, hG, hop, by omega, hhi, N, O, k⟩
end
end TB
end
section
namespace TB
open PySem PySem.Spec PyProof.Rows L2
theorem NetAt.keep {CN CL : Addr} {H H' : Hp} {ad : Ad} {d : Lan} (k : ∀ b o, ad.own b → H b = some o → H' b = some o) (N : NetAt CN CL H ad d) : NetAt CN CL H' ad d := by
  obtain ⟨dx, h1⟩ := N.c.nw
  obtain ⟨kvs, h2, h3⟩ := N.c.hosts
  refine ⟨⟨⟨dx, k _ _ (.inl rfl) h1⟩, k _ _ (.inr (.inl rfl)) N.c.ids, ⟨k _ _ (.inr (.inr (.inl rfl))) N.c.lks.lst, N.c.lks.each.mono fun a x ha r => r.imp fun d' q => k _ _ (.inr (.inr (.inr (.inr (.inr (.inl ha)))))) q⟩, N.c.lnd, ⟨kvs, k _ _ (.inr (.inr (.inr (.inl rfl)))) h2, h3⟩, N.c.dIL, N.c.dN⟩,
    ⟨k _ _ (.inr (.inr (.inr (.inr (.inl rfl))))) N.tabs.lst, N.tabs.nd, N.tabs.each.mono fun a v ha r => ?_⟩, N.dIT, N.dLT, N.dH⟩
  obtain ⟨kv, r1, r2⟩ := r
  exact ⟨kv, k _ _ (.inr (.inr (.inr (.inr (.inr (.inr ha)))))) r1, r2⟩
/-- what stands at the name network -/
def StAt (CN CL : Addr) (H H' : Hp) (fo : Addr) (v : V) : Option Lan → Prop
  | none => v = .non
  | some d => ∃ ad : Ad, v = .ref ad.nw ∧ NetAt CN CL H' ad d ∧ LanOk d ∧ ¬ ad.own fo ∧ ∀ b, ad.own b → H b = none
theorem StAt.keep {CN CL fo : Addr} {H H1 H2 : Hp} {v : V} {st : Option Lan} (k : ∀ b o, b ≠ fo → H1 b = some o → H2 b = some o) (s : StAt CN CL H H1 fo v st) : StAt CN CL H H2 fo v st := by
  cases st with
  | none => exact s
  | some d =>
    obtain ⟨ad, e, N, O, n1, n2⟩ := s
    exact ⟨ad, e, N.keep fun b o hb h => k b o (fun q => n1 (q ▸ hb)) h, O, n1, n2⟩
theorem manyV_eq : manyV = nV manyL := rfl
theorem zV_len (l : List Int) : (zV l).length = l.length := List.length_map ..
theorem zV_app (l m : List Int) : zV (l ++ m) = zV l ++ zV m := by
  unfold zV
  rw [List.map_append]
theorem cut_eq (ns : List Int) (i m : Nat) {lo hi : Int} (h1 : lo = ((i : Nat) : Int)) (h2 : hi = ((i + m : Nat) : Int)) (hl : i + m ≤ ns.length) : cutV (zV ns) (some lo) (some hi) = zV ((ns.drop i).take m) := by
  subst h1 h2
  unfold cutV
  rw [zV_len, show HT.sIx ns.length 0 (some ((i : Nat) : Int)) = min i ns.length from HT.sIx_nat _ _ _, show HT.sIx ns.length ns.length (some ((i + m : Nat) : Int)) = min (i + m) ns.length from HT.sIx_nat _ _ _,
    Nat.min_eq_left (show i ≤ ns.length by omega), Nat.min_eq_left hl]
  unfold zV
  rw [← List.map_drop, ← List.map_take, Nat.add_sub_cancel_left]
theorem step_none {op : Op} (h : op ≠ .reset) : Su200.step none op = (none, Su200.error (-11)) := by
  cases op <;> first | rfl | exact absurd rfl h
theorem step_reset (st : Option Lan) : Su200.step st .reset = (some Su200.empty, Su200.ok 0 []) := by
  cases st <;> rfl
theorem opOf_zero : ∀ {ys : List Nat} {op : Op}, opOf 0 ys = some op → op = .reset
  | [], _, h => (Option.some.inj h).symm
  | _ :: _, _, h => by cases h
theorem opOf_pos {c : Nat} {ys : List Nat} {op : Op} (h : opOf c ys = some op) (hc : c ≠ 0) : op ≠ .reset ∧ 1 ≤ c ∧ c ≤ 18 := by
  unfold opOf at h
  split at h
  all_goals first | exact absurd rfl hc | (cases h; exact ⟨(by intro q; cases q), (by omega), (by omega)⟩) | cases h
theorem big_of {n m : Nat} (h : n ≤ m) (hm : m ≤ 10000000) : n < sizeLine := Nat.lt_of_le_of_lt (Nat.le_trans h hm) (by decide)
section
variable {P : Program} {w : World} {K : PySem.W.Frag} {mg : Str → Option Value} {base : Heap} {CN CL tM : Addr}
/-- found.append(len(numbers)); found.extend(numbers); at = end -/
def tRest (K : PySem.W.Frag) : TS := tSeq (tDrop (tBM K "list" rAppend (tVar 2) (tCons (tCB (fun xs H Q => ∃ p ys, xs = [.ref p] ∧ (SqL K H p ys ∨ SqT K H p ys) ∧ Q (.int ys.length) H) (tCons (tVar 6) tNil)) tNil)))
  (tSeq (tDrop (tBM K "list" rExtend (tVar 2) (tCons (tVar 6) tNil))) (tAsg (tVar 5) (gName 3)))
theorem rest_ok {D : Ends} {s0 s1 s4 : Option V} {fo pn : Addr} {z3 z5 : V} {H2 : Hp} {out rs : List Int} (hfo : H2 fo = some (.lst (zV out))) (hpn : H2 pn = some (.lst (zV rs))) (ne : pn ≠ fo) (hz : out.length + 1 + rs.length ≤ 10000000)
    (h : ∀ H3 : Hp, H3 fo = some (.lst (zV (out ++ (rs.length : Int) :: rs))) → (∀ b, b ≠ fo → H3 b = H2 b) → D.nx [s0, s1, some (.ref fo), some z5, s4, some z5, some (.ref pn)] H3) :
    tRest K D [s0, s1, some (.ref fo), some z3, s4, some z5, some (.ref pn)] H2 := by
  refine ⟨_, rfl, .inl ⟨rfl, _, SqL.of hfo⟩, _, rfl, _, _, rfl, .inl (SqL.of hpn), fo, _, _, rfl, rfl, hfo, by rw [zV_len]; exact big_of (by omega) hz, ?_⟩
  refine ⟨_, rfl, .inl ⟨rfl, _, SqL.of upd_same⟩, _, rfl, fo, pn, _, _, rfl, rfl, upd_same, by rw [upd_ne ne]; exact hpn, by rw [List.length_append, zV_len, zV_len]; exact Nat.le_of_lt (big_of (by show out.length + 1 + rs.length ≤ _; exact Nat.le_refl _) hz), ?_⟩
  refine ⟨_, rfl, h _ ?_ fun b hb => ?_⟩
  · rw [upd_same, zV_len, zV_app]
    unfold zV
    rw [List.map_cons, List.append_assoc]
    rfl
  · rw [upd_ne hb, upd_ne hb]
abbrev s_answers : Stmt := topS 75
theorem sc_answers : FnScope ["calls", "network", "found", "at", "call", "end", "numbers"] ["calls"] (defScope s_answers) := ⟨rfl, rfl, rfl, by decide +kernel, rfl, by decide +kernel, by decide +kernel⟩
def sp_answers (K : PySem.W.Frag) (CN CL : Addr) : Sp := fun vs H Q _ => ∃ (a : Addr) (ns : List Int), vs = [.ref a] ∧ SqL K H a (zV ns) ∧ PySu200.answers_asked ns = true ∧
  ∀ (H' : Hp) (p : Addr), H' p = some (.lst (zV (PySu200.answers ns))) → Q (.ref p) H'
theorem ok_answers {f : Addr} {fd : FuncData} (F : Fun K "answers" "answers" s_answers f fd) (T : Txt K mg CN CL tM) {f_Network_init : Addr} {fd_Network_init : FuncData} (c_Network_init : CalC P w K mg base "Network" CN 1 ["self"] (sp_Network_init K CN CL) f_Network_init fd_Network_init) {f_answer : Addr} {fd_answer : FuncData} (c_answer : Cal P w K mg base "answer" 11 ["network", "call", "given"] (sp_answer K CN CL) f_answer fd_answer) : FnOk P w K mg base CX0 12 f fd ["calls"] (sp_answers K CN CL) := by
  refine F.ok sc_answers (fun vs H Q E h => ?_) (fun cdv A outer s H vs Q E hr h => ?_)
  · obtain ⟨a, ns, rfl, _⟩ := h
    rfl
  · obtain ⟨a, ns, rfl, hS, hask, k⟩ := h
    have hu := hu_of hr
    obtain ⟨cs0, hcs0, ha0, hans, hlen⟩ := asked_of hask
    refine ⟨_, (pss_cons (ps_set (i := 1) sc_answers.nd rfl (Or.inl rfl) pe_non)
      (pss_cons (ps_set (i := 2) sc_answers.nd rfl (Or.inl rfl) (pe_lst pa_nil))
      (pss_cons (ps_set (i := 3) sc_answers.nd rfl (Or.inl rfl) pe_int)
      (pss_cons (ps_while PassesOwn.never (pt_cmpR op_lt (pv 3) (pe_callB call_len_seq (by rfl) T.nLen PySem.boot_len (pa_cons (pv 0) pa_nil)) (nomark _))
      (pss_cons (ps_set (i := 4) sc_answers.nd rfl (Or.inl rfl) (pe_ix ix_list (pv 0) (pv 3) (fun _ _ => rfl)))
      (pss_cons (ps_set (i := 5) sc_answers.nd rfl (Or.inl rfl) (pe_op op_add (pe_op op_add (pv 3) pe_int) (pe_ix ix_tup (pe_glob (v := V.ref tM) rfl T.c_MANY_ARGUMENTS rfl) (pv 4) (fun _ _ => rfl))))
      (pss_cons (ps_set (i := 6) sc_answers.nd rfl (Or.inl rfl) (pe_lst (pa_cons (pe_cst rfl T.c_NO_NETWORK) pa_nil)))
      (pss_cons (ps_if (pt_cmpR op_eq (pv 4) (pe_cst rfl T.c_RESET) (nomark _))
      (pss_cons (ps_set (i := 1) sc_answers.nd rfl (Or.inl rfl) (pe_make0 c_Network_init.mkC c_Network_init.ok (hr.mono (by decide)) (by rfl) c_Network_init.mg c_Network_init.b .nil pass0))
      (pss_one (ps_set (i := 6) sc_answers.nd rfl (Or.inl rfl) (pe_lst (pa_cons pe_int pa_nil)))))
      (pss_one (ps_if (pt_cmp (pc_notN (pv 1)))
      (pss_one (ps_set (i := 6) sc_answers.nd rfl (Or.inl rfl) (pe_call c_answer.ok (hr.mono (by decide)) (by rfl) c_answer.mg c_answer.kp c_answer.b .nil pass0 (pa_cons (pv 1) (pa_cons (pv 4) (pa_cons (pe_slice sl_list (pv 0) (po_some (pe_op op_add (pv 3) pe_int)) (po_some (pv 5))) pa_nil))))))
      pss_nil)))
      (pss_cons (ps_expr (pe_bm PySem.F.plainAttrs_list PySem.F.slot_list_append PySem.F.type_list_append mt_append (pv 2) (pa_cons (pe_callB call_len_seq (by rfl) T.nLen PySem.boot_len (pa_cons (pv 6) pa_nil)) pa_nil)))
      (pss_cons (ps_expr (pe_bm PySem.F.plainAttrs_list PySem.F.slot_list_extend PySem.F.type_list_extend mt_extend (pv 2) (pa_cons (pv 6) pa_nil)))
      (pss_one (ps_set (i := 3) sc_answers.nd rfl (Or.inl rfl) (pv 5))))))))))
      (pss_one (ps_ret (pv 2))))))), ?_⟩
    -- network = None; found = []; at = 0
    refine ⟨Nat.zero_le _, fun fo hfo => ?_⟩
    refine ⟨fun m σ H' => ∃ (i f : Nat) (cs : List (List (List Int))) (st : Option Lan) (v : V) (out : List Int) (v4 v5 v6 : Option V) (z : Int), σ = [some (.ref a), some v, some (.ref fo), some (.int z), v4, v5, v6] ∧ z = (i : Int) ∧ i ≤ ns.length ∧ PyFlat.calls PySu200.shape f (ns.drop i) = some cs ∧
        (∀ c ∈ cs, Su200Neutral.asked1 (c.headD []) = true) ∧ m = cs.length ∧ Same H H' ∧ H' fo = some (.lst (zV out)) ∧ StAt CN CL H H' fo v st ∧ PySu200.answers ns = out ++ PyFlat.told (PyFlat.played stepC st cs),
      ⟨cs0.length, 0, ns.length, cs0, none, .non, [], none, none, none, 0, rfl, rfl, Nat.zero_le _, hcs0, ha0, rfl, same_upd hfo, upd_same, rfl, hans⟩, fun m σ H' hW => ?_⟩
    obtain ⟨i, f, cs, st, v, out, v4, v5, v6, z, rfl, hz, hi, hcs, ha, hm, sm, hf, hst, hout⟩ := hW
    have hS' : SqL K H' a (zV ns) := sm.seq hS
    -- at < len(calls)
    refine ⟨_, rfl, _, rfl, _, _, rfl, .inl hS', _, _, rfl, rfl, _, rfl, ?_⟩
    rw [zV_len]
    refine ite2 (fun c => ?_) (fun c => ?_)
    · have c := of_decide_eq_true c
      have hil : i < ns.length := by omega
      obtain ⟨p, hp⟩ : ∃ p, ns[i]? = some p := ⟨_, List.getElem?_eq_getElem hil⟩
      have hdr : ns.drop i = p :: ns.drop (i + 1) := by
        rw [List.drop_eq_getElem_cons hil]
        congr 1
        exact Option.some.inj ((List.getElem?_eq_getElem hil).symm.trans hp)
      rw [hdr] at hcs
      obtain ⟨n, f', cs', hsh, hn, rfl, hcs'⟩ := calls_step hcs (shape_zero p)
      have hask1 := ha _ (List.mem_cons_self ..)
      obtain ⟨cn, ys, op, C⟩ := call_ok p ((ns.drop (i + 1)).take n) hask1
      have hny : n = ys.length := by
        have e := hsh.symm.trans C.eshape
        exact (Prod.mk.inj (Option.some.inj e)).1
      have hdl : (ns.drop (i + 1)).length = ns.length - (i + 1) := List.length_drop ..
      have hend : i + 1 + n ≤ ns.length := by omega
      have hstep := stepC_call (s := st) C.ecall
      have hplay : PySu200.answers ns = (out ++ ((stepC st [p :: (ns.drop (i + 1)).take n]).2.length : Int) :: (stepC st [p :: (ns.drop (i + 1)).take n]).2) ++ PyFlat.told (PyFlat.played stepC (stepC st [p :: (ns.drop (i + 1)).take n]).1 cs') := by
        rw [hout]
        show out ++ PyFlat.told ((stepC st _).2 :: PyFlat.played stepC (stepC st _).1 cs') = _
        rw [told_cons, List.append_assoc]
        rfl
      have hsz : out.length + 1 + (stepC st [p :: (ns.drop (i + 1)).take n]).2.length ≤ 10000000 := by
        have := congrArg List.length hplay
        rw [List.length_append, List.length_append, List.length_cons] at this
        omega
      have hpc : (zV ns)[i]? = some (iV cn) := by
        unfold zV
        rw [List.getElem?_map, hp, C.ep]
        rfl
      generalize hres : stepC st [p :: (ns.drop (i + 1)).take n] = res at hstep hplay hsz
      refine ⟨fun σ' H2 => ∃ (i f : Nat) (st : Option Lan) (v : V) (out : List Int) (v4 v5 v6 : Option V) (z : Int), σ' = [some (.ref a), some v, some (.ref fo), some (.int z), v4, v5, v6] ∧ z = (i : Int) ∧ i ≤ ns.length ∧ PyFlat.calls PySu200.shape f (ns.drop i) = some cs' ∧
          (∀ c ∈ cs', Su200Neutral.asked1 (c.headD []) = true) ∧ Same H H2 ∧ H2 fo = some (.lst (zV out)) ∧ StAt CN CL H H2 fo v st ∧ PySu200.answers ns = out ++ PyFlat.told (PyFlat.played stepC st cs'), fun σ' H2 hN => ?_, ?_⟩
      · obtain ⟨i, f, st, v, out, v4, v5, v6, z, e1, e2, e3, e4, e5, e6, e7, e8, e9⟩ := hN
        exact ⟨cs'.length, by rw [hm]; exact Nat.lt_succ_self _, i, f, cs', st, v, out, v4, v5, v6, z, e1, e2, e3, e4, e5, rfl, e6, e7, e8, e9⟩
      -- the turn's end
      have fin : ∀ (H2 : Hp) (v2 : V) (pn : Addr) (D : Ends) (z3 : V) (z5 : Int), z5 = ((i + 1 + n : Nat) : Int) → Same H H2 → H2 fo = some (.lst (zV out)) → H2 pn = some (.lst (zV res.2)) → pn ≠ fo → StAt CN CL H H2 fo v2 res.1 →
          (D.nx = fun σ' H2 => ∃ (i f : Nat) (st : Option Lan) (v : V) (out : List Int) (v4 v5 v6 : Option V) (z : Int), σ' = [some (.ref a), some v, some (.ref fo), some (.int z), v4, v5, v6] ∧ z = (i : Int) ∧ i ≤ ns.length ∧ PyFlat.calls PySu200.shape f (ns.drop i) = some cs' ∧
          (∀ c ∈ cs', Su200Neutral.asked1 (c.headD []) = true) ∧ Same H H2 ∧ H2 fo = some (.lst (zV out)) ∧ StAt CN CL H H2 fo v st ∧ PySu200.answers ns = out ++ PyFlat.told (PyFlat.played stepC st cs')) →
          tRest K D [some (.ref a), some v2, some (.ref fo), some z3, some (iV cn), some (.int z5), some (.ref pn)] H2 := by
        intro H2 v2 pn D z3 z5 hz5 s2 h2 hpn ne hs2 hD
        refine rest_ok h2 hpn ne hsz fun H3 h3 hk => ?_
        rw [hD]
        refine ⟨i + 1 + n, f', res.1, v2, _, _, _, _, z5, rfl, hz5, hend, ?_, fun c hc => ha c (List.mem_cons_of_mem _ hc), fun b o e => ?_, h3, hs2.keep fun b o hb e => ?_, hplay⟩
        · rw [← List.drop_drop]
          exact hcs'
        · rw [hk b (ne_of_none e hfo)]
          exact s2 b o e
        · rw [hk b hb]
          exact e
      -- call = calls[at]; end = at + 1 + MANY_ARGUMENTS[call]
      refine ⟨_, rfl, _, rfl, _, _, _, _, rfl, rfl, hS', at_of hz hpc, ?_⟩
      refine ⟨_, rfl, _, _, rfl, rfl, _, rfl, _, _, _, _, rfl, rfl, T.many H', at_nat (j := cn) (v := iV ys.length) ?_, _, _, rfl, rfl, ?_⟩
      · rw [manyV_eq]
        unfold nV
        rw [List.getElem?_map, C.emany]
        rfl
      have hz5 : z + 1 + ((ys.length : Nat) : Int) = ((i + 1 + n : Nat) : Int) := by omega
      -- numbers = [NO_NETWORK]
      refine ⟨(by show 1 ≤ sizeLine; decide), fun pn0 hpn0 => ?_⟩
      have s1 : Same H' (upd H' pn0 (.lst [.int (-11)])) := same_upd hpn0
      have n0 : pn0 ≠ fo := (ne_of_none hf hpn0).symm
      have hf1 := s1 _ _ hf
      -- if call == RESET
      refine ⟨_, rfl, rfl, _, rfl, ?_⟩
      by_cases c0 : cn = 0
      · refine eqT (by omega) ?_
        subst c0
        have eop := opOf_zero C.eop
        subst eop
        rw [step_reset] at hstep
        -- network = Network(); numbers = [0]
        intro x dx nx ndx nex
        refine ⟨x, dx, rfl, upd_same, fun H3 ad e N3 kp ow => ⟨rfl, ?_⟩⟩
        have s3 : Same (upd H' pn0 (.lst [.int (-11)])) H3 := Same.made nx ndx kp
        have sH3 : Same H H3 := sm.trans (s1.trans s3)
        refine ⟨(by show 1 ≤ sizeLine; decide), fun pn hpn => ?_⟩
        have s4 : Same H3 (upd H3 pn (.lst [.int 0])) := same_upd hpn
        have hf3 := s3 _ _ hf1
        refine fin _ (.ref x) pn _ _ _ hz5 (sH3.trans s4) (s4 _ _ hf3) ?_ (ne_of_none hf3 hpn).symm ?_ rfl
        · rw [upd_same, hstep]
          rfl
        · rw [hstep]
          have up : ∀ b, (upd (upd (upd H' pn0 (.lst [.int (-11)])) dx (.own x)) x (.ins CN dx [])) b = none → (upd H' pn0 (.lst [.int (-11)])) b = none := fun b q => by
            cases q2 : (upd H' pn0 (.lst [.int (-11)])) b with
            | none => rfl
            | some o =>
              rw [upd_ne (ne_of_none q2 nx), upd_ne (ne_of_none q2 ndx), q2] at q
              cases q
          refine ⟨ad, by rw [e], N3.same s4, lanOk_empty, fun q => ?_, fun b q => ?_⟩
          · rcases ow _ q with q | q
            · exact ne_of_none hf1 nx q
            · have := up _ q
              rw [hf1] at this
              cases this
          · rcases ow _ q with q | q
            · rw [q]
              exact sm.free (s1.free nx)
            · exact sm.free (s1.free (up _ q))
      · refine eqF (by omega) ?_
        obtain ⟨hr1, hr2, hr3⟩ := opOf_pos C.eop c0
        refine ⟨_, rfl, _, rfl, ?_⟩
        cases st with
        | none =>
          have hv : v = .non := hst
          subst hv
          refine iteF ?_
          rw [step_none hr1] at hstep
          refine fin _ .non pn0 _ _ _ hz5 (sm.trans s1) hf1 ?_ n0 ?_ rfl
          · rw [upd_same, hstep]
            rfl
          · rw [hstep]
            rfl
        | some d =>
          obtain ⟨ad, rfl, N, O, nfo, now⟩ := hst
          refine iteT ?_
          have hstep : res = (some (Su200.execute d op).1, (Su200.execute d op).2.value :: Su200Neutral.outs (Su200.execute d op).2.fields) := hstep
          -- numbers = answer(network, call, calls[at + 1:end])
          refine ⟨_, rfl, _, rfl, _, rfl, _, rfl, _, _, rfl, rfl, _, rfl, _, rfl, _, rfl, _, _, rfl, s1.seq hS', fun ps hps => ?_⟩
          have s2 := same_upd (o := .lst (cutV (zV ns) (some (z + 1)) (some (z + 1 + ((ys.length : Nat) : Int))))) hps
          have N2 := (N.same s1).same s2
          refine ⟨ad, d, cn, ys, op, ps, rfl, ?_, C.eop, hr2, hr3, N2, O, fun H3 ad' pn N3 en fr hpn hno h3 => ?_⟩
          · rw [upd_same, cut_eq ns (i + 1) n (by omega) (by omega) hend, C.exs, nV_eq]
            rfl
          · have s12 := s1.trans s2
            have hf2 := s12 _ _ hf
            have hf3 := fr.keep _ _ hf2 nfo
            refine fin H3 (.ref ad.nw) pn _ _ _ hz5 (fun b o e => fr.keep _ _ (s12 _ _ (sm _ _ e)) fun q => ?_) hf3 ?_ ?_ ?_ rfl
            · rw [now b q] at e
              cases e
            · rw [h3, hstep]
              unfold resV zV Su200Neutral.outs
              rw [List.map_cons, nV_eq]
            · exact (ne_of_none hf2 hpn).symm
            · rw [hstep]
              refine ⟨ad', by rw [en], N3, execute_ok O op, fun q => ?_, fun b q => ?_⟩
              · rcases fr.new _ q with q | q
                · exact nfo q
                · rw [hf2] at q
                  cases q
              · rcases fr.new _ q with q | q
                · exact now b q
                · exact sm.free (s12.free q)
    · have c := of_decide_eq_false (Bool.eq_false_iff.mpr c)
      have hil : i = ns.length := by omega
      rw [List.drop_of_length_le (by omega)] at hcs
      have e := calls_nil hcs
      subst e
      refine ⟨_, rfl, k _ _ ?_⟩
      rw [hf, hout]
      show some (HO.lst (zV out)) = some (HO.lst (zV (out ++ [])))
      rw [List.append_nil]
end
end TB
end
namespace TB
open PySem PySem.Spec PyProof.Rows L2
/-! ### the end: what the top has written -/
structure Def (K : PySem.W.Frag) (mg : Str → Option Value) (x : Str) (st : Stmt) (ps : List Str) (f : Addr) (fd : FuncData) : Prop where
  fn : Fun K x x st f fd
  mg : mg x = some (.ref f)
  b : Binds K fd ps []
  bt : ∀ (s : Shared) (us : List Value), us.length = ps.length → BindsTo s fd ⟨us, []⟩ (ps.zip us)
structure DefM (K : PySem.W.Frag) (C : Addr) (x qual : Str) (st : Stmt) (ps : List Str) (f : Addr) (fd : FuncData) : Prop where
  fn : Fun K x qual st f fd
  at_ : PySem.W.findIn K (.ref C) x = some (some (.ref f))
  is : PySem.W.isFn K (.ref f) = true
  b : Binds K fd ps []
theorem def_mk {K : PySem.W.Frag} {h : Heap} {mg : Str → Option Value} {x : Str} {st : Stmt} {ps : List Str} {f : Addr} {od an : Option Addr} {sl : Array (Option Value)} {oc kV dc pm cd ct : Value}
    (hb : ∀ (kV doc pm : Value) (an : Option Addr) (cdv ct : Value) (us : List Value), us.length = ps.length → bindArgs (PySem.W.fnOf x x (defArgs st) (defBody st) (defScope st) .none kV doc pm an cdv ct) ⟨us, []⟩ = pure (ps.zip us)) (X : K.In h) (G : h.Ns mainGlobals mg)
    (a : PySem.W.nsIn K mainGlobals x = some (some (.ref f))) (l : K.lookup f = some ⟨oc, od, .func (PySem.W.fnOf x x (defArgs st) (defBody st) (defScope st) .none kV dc pm an cd ct), sl⟩) (c : PySem.W.codeIn K cd x = true) (k : PySem.W.keepIn K (.ref f) = true) :
    ∃ f fd, Def K mg x st ps f fd := ⟨f, _, fun_mk l c k, PySem.W.mg_of X G a, (fun_mk l c k).binds hb, fun s us hu => .of_eq (hb _ _ _ _ _ _ us hu)⟩
theorem defM_mk {K : PySem.W.Frag} {C : Addr} {x qual : Str} {st : Stmt} {ps : List Str} {f : Addr} {od an : Option Addr} {sl : Array (Option Value)} {oc kV dc pm cd ct : Value}
    (hb : ∀ (kV doc pm : Value) (an : Option Addr) (cdv ct : Value) (us : List Value), us.length = ps.length → bindArgs (PySem.W.fnOf x qual (defArgs st) (defBody st) (defScope st) .none kV doc pm an cdv ct) ⟨us, []⟩ = pure (ps.zip us))
    (a : PySem.W.findIn K (.ref C) x = some (some (.ref f))) (i : PySem.W.isFn K (.ref f) = true) (l : K.lookup f = some ⟨oc, od, .func (PySem.W.fnOf x qual (defArgs st) (defBody st) (defScope st) .none kV dc pm an cd ct), sl⟩) (c : PySem.W.codeIn K cd qual = true) (k : PySem.W.keepIn K (.ref f) = true) :
    ∃ f fd, DefM K C x qual st ps f fd := ⟨f, _, fun_mk l c k, a, i, (fun_mk l c k).binds hb⟩
structure ClsOk (K : PySem.W.Frag) (mg : Str → Option Value) (x : Str) (C : Addr) : Prop where
  cl : Cls K C
  mg : mg x = some (.ref C)
  mks : PySem.W.makesIn K C = true
  kp : PySem.W.keepIn K (.ref C) = true
theorem cls_mk {K : PySem.W.Frag} {h : Heap} {mg : Str → Option Value} {x : Str} {C : Addr} (X : K.In h) (G : h.Ns mainGlobals mg) (a : PySem.W.nsIn K mainGlobals x = some (some (.ref C)))
    (pg : PySem.W.plainGet K C Str.empty = true) (hd : PySem.W.hasDictIn K C = true) (po : PySem.W.plainOver K C = true) (sa : PySem.W.findIn K (.ref C) "__setattr__" = some (some (.builtin "object.__setattr__"))) (mk : PySem.W.makesIn K C = true) (kc : PySem.W.keepIn K (.ref C) = true) :
    ClsOk K mg x C := ⟨⟨pg, hd, po, sa⟩, PySem.W.mg_of X G a, mk, kc⟩
theorem cst_mk {K : PySem.W.Frag} {h : Heap} {mg : Str → Option Value} {x : Str} {i : Int} {t : Tok} (X : K.In h) (G : h.Ns mainGlobals mg) (a : PySem.W.nsIn K mainGlobals x = some (some (.int i t))) : ∃ t, mg x = some (.int i t) := ⟨t, PySem.W.mg_of X G a⟩
theorem none_mk {K : PySem.W.Frag} {h : Heap} {mg : Str → Option Value} {x : Str} (X : K.In h) (G : h.Ns mainGlobals mg) (a : PySem.W.nsIn K mainGlobals x = some none) : mg x = none := PySem.W.mg_none_of X G a
theorem many_mk {K : PySem.W.Frag} {tM : Addr} {t0 t1 t2 t3 t4 t5 t6 t7 t8 t9 t10 t11 t12 t13 t14 t15 t16 t17 t18 : Tok} {dM : Option Addr} {n : Nat} {sl : Array (Option Value)} (l : K.lookup tM = some ⟨.type "tuple", dM, .seq #[.int 0 t0, .int 1 t1, .int 3 t2, .int 1 t3, .int 1 t4, .int 2 t5, .int 2 t6, .int 1 t7, .int 0 t8, .int 0 t9, .int 1 t10, .int 2 t11, .int 1 t12, .int 2 t13, .int 2 t14, .int 1 t15, .int 0 t16, .int 1 t17, .int 0 t18] n, sl⟩) : ∀ H, SqT K H tM manyV :=
  fun H => .inr ⟨_, _, n, l, rfl, rfl, (by show 19 ≤ sizeLine; decide), (.cons ⟨_, rfl⟩ (.cons ⟨_, rfl⟩ (.cons ⟨_, rfl⟩ (.cons ⟨_, rfl⟩ (.cons ⟨_, rfl⟩ (.cons ⟨_, rfl⟩ (.cons ⟨_, rfl⟩ (.cons ⟨_, rfl⟩ (.cons ⟨_, rfl⟩ (.cons ⟨_, rfl⟩ (.cons ⟨_, rfl⟩ (.cons ⟨_, rfl⟩ (.cons ⟨_, rfl⟩ (.cons ⟨_, rfl⟩ (.cons ⟨_, rfl⟩ (.cons ⟨_, rfl⟩ (.cons ⟨_, rfl⟩ (.cons ⟨_, rfl⟩ (.cons ⟨_, rfl⟩ .nil)))))))))))))))))))⟩
/-- every def keeps its promise -/
theorem all_ok {P : Program} {w : World} {K : PySem.W.Frag} {mg : Str → Option Value} {base : Heap} {CN CL tM : Addr} (T : Txt K mg CN CL tM) (oN : ClsOk K mg "Network" CN) (oL : ClsOk K mg "Link" CL)
    {f_Link_init : Addr} {fd_Link_init : FuncData} (d_Link_init : DefM K CL "__init__" "Link.__init__" s_Link_init ["self", "one", "other", "cost", "is_up"] f_Link_init fd_Link_init)
    {f_is_at : Addr} {fd_is_at : FuncData} (d_is_at : Def K mg "is_at" s_is_at ["link", "bridge"] f_is_at fd_is_at)
    {f_far_end : Addr} {fd_far_end : FuncData} (d_far_end : Def K mg "far_end" s_far_end ["link", "bridge"] f_far_end fd_far_end)
    {f_links_at : Addr} {fd_links_at : FuncData} (d_links_at : Def K mg "links_at" s_links_at ["links", "bridge"] f_links_at fd_links_at)
    {f_with_down : Addr} {fd_with_down : FuncData} (d_with_down : Def K mg "with_down" s_with_down ["links", "number"] f_with_down fd_with_down)
    {f_own_path : Addr} {fd_own_path : FuncData} (d_own_path : Def K mg "own_path" s_own_path ["ids", "bridge"] f_own_path fd_own_path)
    {f_path_over : Addr} {fd_path_over : FuncData} (d_path_over : Def K mg "path_over" s_path_over ["ids", "links", "paths", "bridge", "index"] f_path_over fd_path_over)
    {f_next_path : Addr} {fd_next_path : FuncData} (d_next_path : Def K mg "next_path" s_next_path ["ids", "links", "paths", "bridge"] f_next_path fd_next_path)
    {f_first_paths : Addr} {fd_first_paths : FuncData} (d_first_paths : Def K mg "first_paths" s_first_paths ["ids"] f_first_paths fd_first_paths)
    {f_next_paths : Addr} {fd_next_paths : FuncData} (d_next_paths : Def K mg "next_paths" s_next_paths ["ids", "links", "paths"] f_next_paths fd_next_paths)
    {f_paths_after : Addr} {fd_paths_after : FuncData} (d_paths_after : Def K mg "paths_after" s_paths_after ["ids", "links", "rounds"] f_paths_after fd_paths_after)
    {f_converged_paths : Addr} {fd_converged_paths : FuncData} (d_converged_paths : Def K mg "converged_paths" s_converged_paths ["ids", "links"] f_converged_paths fd_converged_paths)
    {f_rounds_to_converge : Addr} {fd_rounds_to_converge : FuncData} (d_rounds_to_converge : Def K mg "rounds_to_converge" s_rounds_to_converge ["ids", "links"] f_rounds_to_converge fd_rounds_to_converge)
    {f_links_for : Addr} {fd_links_for : FuncData} (d_links_for : Def K mg "links_for" s_links_for ["links", "tree", "table", "visit", "destination"] f_links_for fd_links_for)
    {f_visits_of : Addr} {fd_visits_of : FuncData} (d_visits_of : Def K mg "visits_of" s_visits_of ["links", "tree", "tables", "start", "destination"] f_visits_of fd_visits_of)
    {f_learn : Addr} {fd_learn : FuncData} (d_learn : Def K mg "learn" s_learn ["tables", "visits", "source"] f_learn fd_learn)
    {f_Network_init : Addr} {fd_Network_init : FuncData} (d_Network_init : DefM K CN "__init__" "Network.__init__" s_Network_init ["self"] f_Network_init fd_Network_init)
    {f_Network_forget : Addr} {fd_Network_forget : FuncData} (d_Network_forget : DefM K CN "forget" "Network.forget" s_Network_forget ["self"] f_Network_forget fd_Network_forget)
    {f_Network_has_bridge : Addr} {fd_Network_has_bridge : FuncData} (d_Network_has_bridge : DefM K CN "has_bridge" "Network.has_bridge" s_Network_has_bridge ["self", "bridge"] f_Network_has_bridge fd_Network_has_bridge)
    {f_Network_has_link : Addr} {fd_Network_has_link : FuncData} (d_Network_has_link : DefM K CN "has_link" "Network.has_link" s_Network_has_link ["self", "link"] f_Network_has_link fd_Network_has_link)
    {f_tree_links : Addr} {fd_tree_links : FuncData} (d_tree_links : Def K mg "tree_links" s_tree_links ["ids", "links"] f_tree_links fd_tree_links)
    {f_up_links : Addr} {fd_up_links : FuncData} (d_up_links : Def K mg "up_links" s_up_links ["links"] f_up_links fd_up_links)
    {f_neighbors_over : Addr} {fd_neighbors_over : FuncData} (d_neighbors_over : Def K mg "neighbors_over" s_neighbors_over ["links", "chosen", "bridge"] f_neighbors_over fd_neighbors_over)
    {f_trails_from : Addr} {fd_trails_from : FuncData} (d_trails_from : Def K mg "trails_from" s_trails_from ["links", "chosen", "bridge"] f_trails_from fd_trails_from)
    {f_connected_bridges : Addr} {fd_connected_bridges : FuncData} (d_connected_bridges : Def K mg "connected_bridges" s_connected_bridges ["links", "bridge"] f_connected_bridges fd_connected_bridges)
    {f_tree_path : Addr} {fd_tree_path : FuncData} (d_tree_path : Def K mg "tree_path" s_tree_path ["ids", "links", "start", "goal"] f_tree_path fd_tree_path)
    {f_link_code : Addr} {fd_link_code : FuncData} (d_link_code : Def K mg "link_code" s_link_code ["index"] f_link_code fd_link_code)
    {f_is_cost : Addr} {fd_is_cost : FuncData} (d_is_cost : Def K mg "is_cost" s_is_cost ["cost"] f_is_cost fd_is_cost)
    {f_add_bridge : Addr} {fd_add_bridge : FuncData} (d_add_bridge : Def K mg "add_bridge" s_add_bridge ["network", "bridge_id"] f_add_bridge fd_add_bridge)
    {f_add_link : Addr} {fd_add_link : FuncData} (d_add_link : Def K mg "add_link" s_add_link ["network", "one", "other", "cost"] f_add_link fd_add_link)
    {f_link_down : Addr} {fd_link_down : FuncData} (d_link_down : Def K mg "link_down" s_link_down ["network", "number"] f_link_down fd_link_down)
    {f_link_up : Addr} {fd_link_up : FuncData} (d_link_up : Def K mg "link_up" s_link_up ["network", "number"] f_link_up fd_link_up)
    {f_set_cost : Addr} {fd_set_cost : FuncData} (d_set_cost : Def K mg "set_cost" s_set_cost ["network", "number", "cost"] f_set_cost fd_set_cost)
    {f_set_bridge_id : Addr} {fd_set_bridge_id : FuncData} (d_set_bridge_id : Def K mg "set_bridge_id" s_set_bridge_id ["network", "bridge", "bridge_id"] f_set_bridge_id fd_set_bridge_id)
    {f_place_host : Addr} {fd_place_host : FuncData} (d_place_host : Def K mg "place_host" s_place_host ["network", "host", "bridge"] f_place_host fd_place_host)
    {f_send_frame : Addr} {fd_send_frame : FuncData} (d_send_frame : Def K mg "send_frame" s_send_frame ["network", "source", "destination"] f_send_frame fd_send_frame)
    {f_flush_tables : Addr} {fd_flush_tables : FuncData} (d_flush_tables : Def K mg "flush_tables" s_flush_tables ["network"] f_flush_tables fd_flush_tables)
    {f_path_fields : Addr} {fd_path_fields : FuncData} (d_path_fields : Def K mg "path_fields" s_path_fields ["path"] f_path_fields fd_path_fields)
    {f_root_paths_after : Addr} {fd_root_paths_after : FuncData} (d_root_paths_after : Def K mg "root_paths_after" s_root_paths_after ["network", "rounds"] f_root_paths_after fd_root_paths_after)
    {f_needed_rounds : Addr} {fd_needed_rounds : FuncData} (d_needed_rounds : Def K mg "needed_rounds" s_needed_rounds ["network"] f_needed_rounds fd_needed_rounds)
    {f_all_tree_links : Addr} {fd_all_tree_links : FuncData} (d_all_tree_links : Def K mg "all_tree_links" s_all_tree_links ["network"] f_all_tree_links fd_all_tree_links)
    {f_root_path : Addr} {fd_root_path : FuncData} (d_root_path : Def K mg "root_path" s_root_path ["network", "bridge"] f_root_path fd_root_path)
    {f_path_between : Addr} {fd_path_between : FuncData} (d_path_between : Def K mg "path_between" s_path_between ["network", "start", "goal"] f_path_between fd_path_between)
    {f_bridges_connected_to : Addr} {fd_bridges_connected_to : FuncData} (d_bridges_connected_to : Def K mg "bridges_connected_to" s_bridges_connected_to ["network", "bridge"] f_bridges_connected_to fd_bridges_connected_to)
    {f_learned_entries : Addr} {fd_learned_entries : FuncData} (d_learned_entries : Def K mg "learned_entries" s_learned_entries ["network", "host"] f_learned_entries fd_learned_entries)
    {f_preview_link_down : Addr} {fd_preview_link_down : FuncData} (d_preview_link_down : Def K mg "preview_link_down" s_preview_link_down ["network", "number"] f_preview_link_down fd_preview_link_down)
    {f_topology : Addr} {fd_topology : FuncData} (d_topology : Def K mg "topology" s_topology ["network"] f_topology fd_topology)
    {f_changed : Addr} {fd_changed : FuncData} (d_changed : Def K mg "changed" s_changed ["network", "call", "given"] f_changed fd_changed)
    {f_told : Addr} {fd_told : FuncData} (d_told : Def K mg "told" s_told ["network", "call", "given"] f_told fd_told)
    {f_forwarded : Addr} {fd_forwarded : FuncData} (d_forwarded : Def K mg "forwarded" s_forwarded ["network", "call", "given"] f_forwarded fd_forwarded)
    {f_answer : Addr} {fd_answer : FuncData} (d_answer : Def K mg "answer" s_answer ["network", "call", "given"] f_answer fd_answer)
    {f_answers : Addr} {fd_answers : FuncData} (d_answers : Def K mg "answers" s_answers ["calls"] f_answers fd_answers)
    : FnOk P w K mg base CX0 12 f_answers fd_answers ["calls"] (sp_answers K CN CL) := by
  have c_Link_init : CalC P w K mg base "Link" CL 1 ["self", "one", "other", "cost", "is_up"] (sp_Link_init K CN CL) f_Link_init fd_Link_init := ⟨ok_Link_init d_Link_init.fn T, ⟨oL.mks, d_Link_init.at_, d_Link_init.is, oL.kp⟩, oL.mg, d_Link_init.b⟩
  have c_is_at : Cal P w K mg base "is_at" 1 ["link", "bridge"] (sp_is_at K CN CL) f_is_at fd_is_at := ⟨ok_is_at d_is_at.fn T, d_is_at.mg, d_is_at.fn.kp, d_is_at.b⟩
  have c_far_end : Cal P w K mg base "far_end" 1 ["link", "bridge"] (sp_far_end K CN CL) f_far_end fd_far_end := ⟨ok_far_end d_far_end.fn T, d_far_end.mg, d_far_end.fn.kp, d_far_end.b⟩
  have c_links_at : Cal P w K mg base "links_at" 2 ["links", "bridge"] (sp_links_at K CN CL) f_links_at fd_links_at := ⟨ok_links_at d_links_at.fn T c_is_at, d_links_at.mg, d_links_at.fn.kp, d_links_at.b⟩
  have c_with_down : Cal P w K mg base "with_down" 3 ["links", "number"] (sp_with_down K CN CL) f_with_down fd_with_down := ⟨ok_with_down d_with_down.fn T c_Link_init, d_with_down.mg, d_with_down.fn.kp, d_with_down.b⟩
  have c_own_path : Cal P w K mg base "own_path" 1 ["ids", "bridge"] (sp_own_path K CN CL) f_own_path fd_own_path := ⟨ok_own_path d_own_path.fn T, d_own_path.mg, d_own_path.fn.kp, d_own_path.b⟩
  have c_path_over : Cal P w K mg base "path_over" 2 ["ids", "links", "paths", "bridge", "index"] (sp_path_over K CN CL) f_path_over fd_path_over := ⟨ok_path_over d_path_over.fn T c_far_end, d_path_over.mg, d_path_over.fn.kp, d_path_over.b⟩
  have c_next_path : Cal P w K mg base "next_path" 3 ["ids", "links", "paths", "bridge"] (sp_next_path K CN CL) f_next_path fd_next_path := ⟨ok_next_path d_next_path.fn T c_own_path c_links_at c_path_over, d_next_path.mg, d_next_path.fn.kp, d_next_path.b⟩
  have c_first_paths : Cal P w K mg base "first_paths" 2 ["ids"] (sp_first_paths K CN CL) f_first_paths fd_first_paths := ⟨ok_first_paths d_first_paths.fn T c_own_path, d_first_paths.mg, d_first_paths.fn.kp, d_first_paths.b⟩
  have c_next_paths : Cal P w K mg base "next_paths" 4 ["ids", "links", "paths"] (sp_next_paths K CN CL) f_next_paths fd_next_paths := ⟨ok_next_paths d_next_paths.fn T c_next_path, d_next_paths.mg, d_next_paths.fn.kp, d_next_paths.b⟩
  have c_paths_after : Cal P w K mg base "paths_after" 5 ["ids", "links", "rounds"] (sp_paths_after K CN CL) f_paths_after fd_paths_after := ⟨ok_paths_after d_paths_after.fn T c_first_paths c_next_paths, d_paths_after.mg, d_paths_after.fn.kp, d_paths_after.b⟩
  have c_converged_paths : Cal P w K mg base "converged_paths" 6 ["ids", "links"] (sp_converged_paths K CN CL) f_converged_paths fd_converged_paths := ⟨ok_converged_paths d_converged_paths.fn T c_paths_after, d_converged_paths.mg, d_converged_paths.fn.kp, d_converged_paths.b⟩
  have c_rounds_to_converge : Cal P w K mg base "rounds_to_converge" 5 ["ids", "links"] (sp_rounds_to_converge K CN CL) f_rounds_to_converge fd_rounds_to_converge := ⟨ok_rounds_to_converge d_rounds_to_converge.fn T c_first_paths c_next_paths, d_rounds_to_converge.mg, d_rounds_to_converge.fn.kp, d_rounds_to_converge.b⟩
  have c_links_for : Cal P w K mg base "links_for" 3 ["links", "tree", "table", "visit", "destination"] (sp_links_for K CN CL) f_links_for fd_links_for := ⟨ok_links_for d_links_for.fn T c_links_at, d_links_for.mg, d_links_for.fn.kp, d_links_for.b⟩
  have c_visits_of : Cal P w K mg base "visits_of" 4 ["links", "tree", "tables", "start", "destination"] (sp_visits_of K CN CL) f_visits_of fd_visits_of := ⟨ok_visits_of d_visits_of.fn T c_links_for c_far_end, d_visits_of.mg, d_visits_of.fn.kp, d_visits_of.b⟩
  have c_learn : Cal P w K mg base "learn" 1 ["tables", "visits", "source"] (sp_learn K CN CL) f_learn fd_learn := ⟨ok_learn d_learn.fn T, d_learn.mg, d_learn.fn.kp, d_learn.b⟩
  have c_Network_init : CalC P w K mg base "Network" CN 1 ["self"] (sp_Network_init K CN CL) f_Network_init fd_Network_init := ⟨ok_Network_init d_Network_init.fn T, ⟨oN.mks, d_Network_init.at_, d_Network_init.is, oN.kp⟩, oN.mg, d_Network_init.b⟩
  have c_Network_forget : CalM P w K mg base "forget" CN 1 ["self"] (sp_Network_forget K CN CL) f_Network_forget fd_Network_forget := ⟨ok_Network_forget d_Network_forget.fn T, ⟨d_Network_forget.at_, d_Network_forget.is, d_Network_forget.fn.kp⟩, d_Network_forget.b⟩
  have c_Network_has_bridge : CalM P w K mg base "has_bridge" CN 1 ["self", "bridge"] (sp_Network_has_bridge K CN CL) f_Network_has_bridge fd_Network_has_bridge := ⟨ok_Network_has_bridge d_Network_has_bridge.fn T, ⟨d_Network_has_bridge.at_, d_Network_has_bridge.is, d_Network_has_bridge.fn.kp⟩, d_Network_has_bridge.b⟩
  have c_Network_has_link : CalM P w K mg base "has_link" CN 1 ["self", "link"] (sp_Network_has_link K CN CL) f_Network_has_link fd_Network_has_link := ⟨ok_Network_has_link d_Network_has_link.fn T, ⟨d_Network_has_link.at_, d_Network_has_link.is, d_Network_has_link.fn.kp⟩, d_Network_has_link.b⟩
  have c_tree_links : Cal P w K mg base "tree_links" 7 ["ids", "links"] (sp_tree_links K CN CL) f_tree_links fd_tree_links := ⟨ok_tree_links d_tree_links.fn T c_converged_paths, d_tree_links.mg, d_tree_links.fn.kp, d_tree_links.b⟩
  have c_up_links : Cal P w K mg base "up_links" 1 ["links"] (sp_up_links K CN CL) f_up_links fd_up_links := ⟨ok_up_links d_up_links.fn T, d_up_links.mg, d_up_links.fn.kp, d_up_links.b⟩
  have c_neighbors_over : Cal P w K mg base "neighbors_over" 3 ["links", "chosen", "bridge"] (sp_neighbors_over K CN CL) f_neighbors_over fd_neighbors_over := ⟨ok_neighbors_over d_neighbors_over.fn T c_far_end c_links_at, d_neighbors_over.mg, d_neighbors_over.fn.kp, d_neighbors_over.b⟩
  have c_trails_from : Cal P w K mg base "trails_from" 4 ["links", "chosen", "bridge"] (sp_trails_from K CN CL) f_trails_from fd_trails_from := ⟨ok_trails_from d_trails_from.fn T c_neighbors_over, d_trails_from.mg, d_trails_from.fn.kp, d_trails_from.b⟩
  have c_connected_bridges : Cal P w K mg base "connected_bridges" 5 ["links", "bridge"] (sp_connected_bridges K CN CL) f_connected_bridges fd_connected_bridges := ⟨ok_connected_bridges d_connected_bridges.fn T c_trails_from c_up_links, d_connected_bridges.mg, d_connected_bridges.fn.kp, d_connected_bridges.b⟩
  have c_tree_path : Cal P w K mg base "tree_path" 8 ["ids", "links", "start", "goal"] (sp_tree_path K CN CL) f_tree_path fd_tree_path := ⟨ok_tree_path d_tree_path.fn T c_trails_from c_tree_links, d_tree_path.mg, d_tree_path.fn.kp, d_tree_path.b⟩
  have c_link_code : Cal P w K mg base "link_code" 1 ["index"] (sp_link_code K CN CL) f_link_code fd_link_code := ⟨ok_link_code d_link_code.fn T, d_link_code.mg, d_link_code.fn.kp, d_link_code.b⟩
  have c_is_cost : Cal P w K mg base "is_cost" 1 ["cost"] (sp_is_cost K CN CL) f_is_cost fd_is_cost := ⟨ok_is_cost d_is_cost.fn T, d_is_cost.mg, d_is_cost.fn.kp, d_is_cost.b⟩
  have c_add_bridge : Cal P w K mg base "add_bridge" 2 ["network", "bridge_id"] (sp_add_bridge K CN CL) f_add_bridge fd_add_bridge := ⟨ok_add_bridge d_add_bridge.fn T c_Network_forget, d_add_bridge.mg, d_add_bridge.fn.kp, d_add_bridge.b⟩
  have c_add_link : Cal P w K mg base "add_link" 3 ["network", "one", "other", "cost"] (sp_add_link K CN CL) f_add_link fd_add_link := ⟨ok_add_link d_add_link.fn T c_Network_forget c_Link_init c_Network_has_bridge c_is_cost, d_add_link.mg, d_add_link.fn.kp, d_add_link.b⟩
  have c_link_down : Cal P w K mg base "link_down" 8 ["network", "number"] (sp_link_down K CN CL) f_link_down fd_link_down := ⟨ok_link_down d_link_down.fn T c_tree_links c_Network_forget c_Network_has_link, d_link_down.mg, d_link_down.fn.kp, d_link_down.b⟩
  have c_link_up : Cal P w K mg base "link_up" 8 ["network", "number"] (sp_link_up K CN CL) f_link_up fd_link_up := ⟨ok_link_up d_link_up.fn T c_Network_forget c_tree_links c_Network_has_link, d_link_up.mg, d_link_up.fn.kp, d_link_up.b⟩
  have c_set_cost : Cal P w K mg base "set_cost" 2 ["network", "number", "cost"] (sp_set_cost K CN CL) f_set_cost fd_set_cost := ⟨ok_set_cost d_set_cost.fn T c_Network_forget c_Network_has_link c_is_cost, d_set_cost.mg, d_set_cost.fn.kp, d_set_cost.b⟩
  have c_set_bridge_id : Cal P w K mg base "set_bridge_id" 2 ["network", "bridge", "bridge_id"] (sp_set_bridge_id K CN CL) f_set_bridge_id fd_set_bridge_id := ⟨ok_set_bridge_id d_set_bridge_id.fn T c_Network_forget c_Network_has_bridge, d_set_bridge_id.mg, d_set_bridge_id.fn.kp, d_set_bridge_id.b⟩
  have c_place_host : Cal P w K mg base "place_host" 2 ["network", "host", "bridge"] (sp_place_host K CN CL) f_place_host fd_place_host := ⟨ok_place_host d_place_host.fn T c_Network_has_bridge, d_place_host.mg, d_place_host.fn.kp, d_place_host.b⟩
  have c_send_frame : Cal P w K mg base "send_frame" 8 ["network", "source", "destination"] (sp_send_frame K CN CL) f_send_frame fd_send_frame := ⟨ok_send_frame d_send_frame.fn T c_tree_links c_visits_of c_learn c_link_code, d_send_frame.mg, d_send_frame.fn.kp, d_send_frame.b⟩
  have c_flush_tables : Cal P w K mg base "flush_tables" 2 ["network"] (sp_flush_tables K CN CL) f_flush_tables fd_flush_tables := ⟨ok_flush_tables d_flush_tables.fn T c_Network_forget, d_flush_tables.mg, d_flush_tables.fn.kp, d_flush_tables.b⟩
  have c_path_fields : Cal P w K mg base "path_fields" 2 ["path"] (sp_path_fields K CN CL) f_path_fields fd_path_fields := ⟨ok_path_fields d_path_fields.fn T c_link_code, d_path_fields.mg, d_path_fields.fn.kp, d_path_fields.b⟩
  have c_root_paths_after : Cal P w K mg base "root_paths_after" 6 ["network", "rounds"] (sp_root_paths_after K CN CL) f_root_paths_after fd_root_paths_after := ⟨ok_root_paths_after d_root_paths_after.fn T c_paths_after c_path_fields, d_root_paths_after.mg, d_root_paths_after.fn.kp, d_root_paths_after.b⟩
  have c_needed_rounds : Cal P w K mg base "needed_rounds" 6 ["network"] (sp_needed_rounds K CN CL) f_needed_rounds fd_needed_rounds := ⟨ok_needed_rounds d_needed_rounds.fn T c_rounds_to_converge, d_needed_rounds.mg, d_needed_rounds.fn.kp, d_needed_rounds.b⟩
  have c_all_tree_links : Cal P w K mg base "all_tree_links" 8 ["network"] (sp_all_tree_links K CN CL) f_all_tree_links fd_all_tree_links := ⟨ok_all_tree_links d_all_tree_links.fn T c_tree_links, d_all_tree_links.mg, d_all_tree_links.fn.kp, d_all_tree_links.b⟩
  have c_root_path : Cal P w K mg base "root_path" 7 ["network", "bridge"] (sp_root_path K CN CL) f_root_path fd_root_path := ⟨ok_root_path d_root_path.fn T c_path_fields c_Network_has_bridge c_converged_paths, d_root_path.mg, d_root_path.fn.kp, d_root_path.b⟩
  have c_path_between : Cal P w K mg base "path_between" 9 ["network", "start", "goal"] (sp_path_between K CN CL) f_path_between fd_path_between := ⟨ok_path_between d_path_between.fn T c_tree_path c_connected_bridges c_Network_has_bridge, d_path_between.mg, d_path_between.fn.kp, d_path_between.b⟩
  have c_bridges_connected_to : Cal P w K mg base "bridges_connected_to" 6 ["network", "bridge"] (sp_bridges_connected_to K CN CL) f_bridges_connected_to fd_bridges_connected_to := ⟨ok_bridges_connected_to d_bridges_connected_to.fn T c_connected_bridges c_Network_has_bridge, d_bridges_connected_to.mg, d_bridges_connected_to.fn.kp, d_bridges_connected_to.b⟩
  have c_learned_entries : Cal P w K mg base "learned_entries" 2 ["network", "host"] (sp_learned_entries K CN CL) f_learned_entries fd_learned_entries := ⟨ok_learned_entries d_learned_entries.fn T c_link_code, d_learned_entries.mg, d_learned_entries.fn.kp, d_learned_entries.b⟩
  have c_preview_link_down : Cal P w K mg base "preview_link_down" 8 ["network", "number"] (sp_preview_link_down K CN CL) f_preview_link_down fd_preview_link_down := ⟨ok_preview_link_down d_preview_link_down.fn T c_tree_links c_Network_has_link c_with_down, d_preview_link_down.mg, d_preview_link_down.fn.kp, d_preview_link_down.b⟩
  have c_topology : Cal P w K mg base "topology" 1 ["network"] (sp_topology K CN CL) f_topology fd_topology := ⟨ok_topology d_topology.fn T, d_topology.mg, d_topology.fn.kp, d_topology.b⟩
  have c_changed : Cal P w K mg base "changed" 9 ["network", "call", "given"] (sp_changed K CN CL) f_changed fd_changed := ⟨ok_changed d_changed.fn T c_set_bridge_id c_add_bridge c_add_link c_link_down c_link_up c_set_cost, d_changed.mg, d_changed.fn.kp, d_changed.b⟩
  have c_told : Cal P w K mg base "told" 10 ["network", "call", "given"] (sp_told K CN CL) f_told fd_told := ⟨ok_told d_told.fn T c_bridges_connected_to c_root_paths_after c_needed_rounds c_all_tree_links c_root_path c_path_between, d_told.mg, d_told.fn.kp, d_told.b⟩
  have c_forwarded : Cal P w K mg base "forwarded" 9 ["network", "call", "given"] (sp_forwarded K CN CL) f_forwarded fd_forwarded := ⟨ok_forwarded d_forwarded.fn T c_topology c_place_host c_send_frame c_learned_entries c_flush_tables c_preview_link_down, d_forwarded.mg, d_forwarded.fn.kp, d_forwarded.b⟩
  have c_answer : Cal P w K mg base "answer" 11 ["network", "call", "given"] (sp_answer K CN CL) f_answer fd_answer := ⟨ok_answer d_answer.fn T c_changed c_told c_forwarded, d_answer.mg, d_answer.fn.kp, d_answer.b⟩
  exact ok_answers d_answers.fn T c_Network_init c_answer
def AllNetwork {K : PySem.W.Frag} {h : Heap} {mg : Str → Option Value} (_ : K.In h) (_ : h.Ns mainGlobals mg) : Prop := ∃ C, ClsOk K mg "Network" C ∧ (∃ f fd, DefM K C "__init__" "Network.__init__" s_Network_init ["self"] f fd) ∧ (∃ f fd, DefM K C "forget" "Network.forget" s_Network_forget ["self"] f fd) ∧ (∃ f fd, DefM K C "has_bridge" "Network.has_bridge" s_Network_has_bridge ["self", "bridge"] f fd) ∧ (∃ f fd, DefM K C "has_link" "Network.has_link" s_Network_has_link ["self", "link"] f fd) ∧ NoAttr K C "ids" ∧ NoAttr K C "links" ∧ NoAttr K C "hosts" ∧ NoAttr K C "tables"
def AllLink {K : PySem.W.Frag} {h : Heap} {mg : Str → Option Value} (_ : K.In h) (_ : h.Ns mainGlobals mg) : Prop := ∃ C, ClsOk K mg "Link" C ∧ (∃ f fd, DefM K C "__init__" "Link.__init__" s_Link_init ["self", "one", "other", "cost", "is_up"] f fd) ∧ NoAttr K C "one" ∧ NoAttr K C "other" ∧ NoAttr K C "cost" ∧ NoAttr K C "is_up"
def AllMany {K : PySem.W.Frag} {h : Heap} {mg : Str → Option Value} (_ : K.In h) (_ : h.Ns mainGlobals mg) : Prop := ∃ tM, mg "MANY_ARGUMENTS" = some (.ref tM) ∧ ∀ H, SqT K H tM manyV
end TB
open PySem PySem.W PyProof.Rows
set_option maxRecDepth 100000 in
set_option maxHeartbeats 0 in
theorem PySem.Challenge.cw_treebridgeworks_s01_answers_holds : PySem.Challenge.rw_treebridgeworks_s01_answers.Holds := by
  w_on; k_headS; (case hw => exact ⟨[.list [.int 0]], by decide +kernel, by decide +kernel⟩)
  k_fillS
  refine L2.walk_specK (r := PySem.Challenge.rw_treebridgeworks_s01_answers) (k := 12) (CX := L2.CX0) (ps := ["calls"]) (sp := fun K => TB.sp_answers K 0 0) (by decide +kernel) rfl rfl ⟨rfl, by decide, by decide⟩ (fun w h Y => PySem.W.kIn_of Y) ?F ?S (fun _ _ _ _ z => z)
  case F =>
    intro w mg fa h Y KX G hmg
    have qNetwork : TB.AllNetwork KX G := by
      refine' ⟨_, TB.cls_mk KX G ?a ?pg ?hd ?po ?sa ?mk ?kc, ?m0, ?m1, ?m2, ?m3, ?n0, ?n1, ?n2, ?n3⟩
      (case a => k_is)
      (case pg => k_is)
      (case hd => k_is)
      (case po => k_is)
      (case sa => k_is)
      (case mk => k_is)
      (case kc => k_is)
      (case m0 => (refine' TB.defM_mk (fun _ _ _ _ _ _ us hl => match us, hl with | [_], _ => rfl) ?a ?i ?l ?c ?k; (case a => k_is); (case i => k_is); (case l => k_is); (case c => k_is); (case k => k_is)))
      (case m1 => (refine' TB.defM_mk (fun _ _ _ _ _ _ us hl => match us, hl with | [_], _ => rfl) ?a ?i ?l ?c ?k; (case a => k_is); (case i => k_is); (case l => k_is); (case c => k_is); (case k => k_is)))
      (case m2 => (refine' TB.defM_mk (fun _ _ _ _ _ _ us hl => match us, hl with | [_, _], _ => rfl) ?a ?i ?l ?c ?k; (case a => k_is); (case i => k_is); (case l => k_is); (case c => k_is); (case k => k_is)))
      (case m3 => (refine' TB.defM_mk (fun _ _ _ _ _ _ us hl => match us, hl with | [_, _], _ => rfl) ?a ?i ?l ?c ?k; (case a => k_is); (case i => k_is); (case l => k_is); (case c => k_is); (case k => k_is)))
      (case n0 => (show PySem.W.findIn _ _ _ = some none; k_is))
      (case n1 => (show PySem.W.findIn _ _ _ = some none; k_is))
      (case n2 => (show PySem.W.findIn _ _ _ = some none; k_is))
      (case n3 => (show PySem.W.findIn _ _ _ = some none; k_is))
    obtain ⟨CN, oN, ⟨f_Network_init, fd_Network_init, d_Network_init⟩, ⟨f_Network_forget, fd_Network_forget, d_Network_forget⟩, ⟨f_Network_has_bridge, fd_Network_has_bridge, d_Network_has_bridge⟩, ⟨f_Network_has_link, fd_Network_has_link, d_Network_has_link⟩, n_ids, n_links, n_hosts, n_tables⟩ := qNetwork
    have qLink : TB.AllLink KX G := by
      refine' ⟨_, TB.cls_mk KX G ?a ?pg ?hd ?po ?sa ?mk ?kc, ?m0, ?n0, ?n1, ?n2, ?n3⟩
      (case a => k_is)
      (case pg => k_is)
      (case hd => k_is)
      (case po => k_is)
      (case sa => k_is)
      (case mk => k_is)
      (case kc => k_is)
      (case m0 => (refine' TB.defM_mk (fun _ _ _ _ _ _ us hl => match us, hl with | [_, _, _, _, _], _ => rfl) ?a ?i ?l ?c ?k; (case a => k_is); (case i => k_is); (case l => k_is); (case c => k_is); (case k => k_is)))
      (case n0 => (show PySem.W.findIn _ _ _ = some none; k_is))
      (case n1 => (show PySem.W.findIn _ _ _ = some none; k_is))
      (case n2 => (show PySem.W.findIn _ _ _ = some none; k_is))
      (case n3 => (show PySem.W.findIn _ _ _ = some none; k_is))
    obtain ⟨CL, oL, ⟨f_Link_init, fd_Link_init, d_Link_init⟩, n_one, n_other, n_cost, n_is_up⟩ := qLink
    obtain ⟨f_is_at, fd_is_at, d_is_at⟩ : ∃ f fd, TB.Def _ mg "is_at" TB.s_is_at ["link", "bridge"] f fd := by
      refine' TB.def_mk (fun _ _ _ _ _ _ us hl => match us, hl with | [_, _], _ => rfl) KX G ?a ?l ?c ?k
      (case a => k_is)
      (case l => k_is)
      (case c => k_is)
      (case k => k_is)
    obtain ⟨f_far_end, fd_far_end, d_far_end⟩ : ∃ f fd, TB.Def _ mg "far_end" TB.s_far_end ["link", "bridge"] f fd := by
      refine' TB.def_mk (fun _ _ _ _ _ _ us hl => match us, hl with | [_, _], _ => rfl) KX G ?a ?l ?c ?k
      (case a => k_is)
      (case l => k_is)
      (case c => k_is)
      (case k => k_is)
    obtain ⟨f_links_at, fd_links_at, d_links_at⟩ : ∃ f fd, TB.Def _ mg "links_at" TB.s_links_at ["links", "bridge"] f fd := by
      refine' TB.def_mk (fun _ _ _ _ _ _ us hl => match us, hl with | [_, _], _ => rfl) KX G ?a ?l ?c ?k
      (case a => k_is)
      (case l => k_is)
      (case c => k_is)
      (case k => k_is)
    obtain ⟨f_with_down, fd_with_down, d_with_down⟩ : ∃ f fd, TB.Def _ mg "with_down" TB.s_with_down ["links", "number"] f fd := by
      refine' TB.def_mk (fun _ _ _ _ _ _ us hl => match us, hl with | [_, _], _ => rfl) KX G ?a ?l ?c ?k
      (case a => k_is)
      (case l => k_is)
      (case c => k_is)
      (case k => k_is)
    obtain ⟨f_own_path, fd_own_path, d_own_path⟩ : ∃ f fd, TB.Def _ mg "own_path" TB.s_own_path ["ids", "bridge"] f fd := by
      refine' TB.def_mk (fun _ _ _ _ _ _ us hl => match us, hl with | [_, _], _ => rfl) KX G ?a ?l ?c ?k
      (case a => k_is)
      (case l => k_is)
      (case c => k_is)
      (case k => k_is)
    obtain ⟨f_path_over, fd_path_over, d_path_over⟩ : ∃ f fd, TB.Def _ mg "path_over" TB.s_path_over ["ids", "links", "paths", "bridge", "index"] f fd := by
      refine' TB.def_mk (fun _ _ _ _ _ _ us hl => match us, hl with | [_, _, _, _, _], _ => rfl) KX G ?a ?l ?c ?k
      (case a => k_is)
      (case l => k_is)
      (case c => k_is)
      (case k => k_is)
    obtain ⟨f_next_path, fd_next_path, d_next_path⟩ : ∃ f fd, TB.Def _ mg "next_path" TB.s_next_path ["ids", "links", "paths", "bridge"] f fd := by
      refine' TB.def_mk (fun _ _ _ _ _ _ us hl => match us, hl with | [_, _, _, _], _ => rfl) KX G ?a ?l ?c ?k
      (case a => k_is)
      (case l => k_is)
      (case c => k_is)
      (case k => k_is)
    obtain ⟨f_first_paths, fd_first_paths, d_first_paths⟩ : ∃ f fd, TB.Def _ mg "first_paths" TB.s_first_paths ["ids"] f fd := by
      refine' TB.def_mk (fun _ _ _ _ _ _ us hl => match us, hl with | [_], _ => rfl) KX G ?a ?l ?c ?k
      (case a => k_is)
      (case l => k_is)
      (case c => k_is)
      (case k => k_is)
    obtain ⟨f_next_paths, fd_next_paths, d_next_paths⟩ : ∃ f fd, TB.Def _ mg "next_paths" TB.s_next_paths ["ids", "links", "paths"] f fd := by
      refine' TB.def_mk (fun _ _ _ _ _ _ us hl => match us, hl with | [_, _, _], _ => rfl) KX G ?a ?l ?c ?k
      (case a => k_is)
      (case l => k_is)
      (case c => k_is)
      (case k => k_is)
    obtain ⟨f_paths_after, fd_paths_after, d_paths_after⟩ : ∃ f fd, TB.Def _ mg "paths_after" TB.s_paths_after ["ids", "links", "rounds"] f fd := by
      refine' TB.def_mk (fun _ _ _ _ _ _ us hl => match us, hl with | [_, _, _], _ => rfl) KX G ?a ?l ?c ?k
      (case a => k_is)
      (case l => k_is)
      (case c => k_is)
      (case k => k_is)
    obtain ⟨f_converged_paths, fd_converged_paths, d_converged_paths⟩ : ∃ f fd, TB.Def _ mg "converged_paths" TB.s_converged_paths ["ids", "links"] f fd := by
      refine' TB.def_mk (fun _ _ _ _ _ _ us hl => match us, hl with | [_, _], _ => rfl) KX G ?a ?l ?c ?k
      (case a => k_is)
      (case l => k_is)
      (case c => k_is)
      (case k => k_is)
    obtain ⟨f_rounds_to_converge, fd_rounds_to_converge, d_rounds_to_converge⟩ : ∃ f fd, TB.Def _ mg "rounds_to_converge" TB.s_rounds_to_converge ["ids", "links"] f fd := by
      refine' TB.def_mk (fun _ _ _ _ _ _ us hl => match us, hl with | [_, _], _ => rfl) KX G ?a ?l ?c ?k
      (case a => k_is)
      (case l => k_is)
      (case c => k_is)
      (case k => k_is)
    obtain ⟨f_links_for, fd_links_for, d_links_for⟩ : ∃ f fd, TB.Def _ mg "links_for" TB.s_links_for ["links", "tree", "table", "visit", "destination"] f fd := by
      refine' TB.def_mk (fun _ _ _ _ _ _ us hl => match us, hl with | [_, _, _, _, _], _ => rfl) KX G ?a ?l ?c ?k
      (case a => k_is)
      (case l => k_is)
      (case c => k_is)
      (case k => k_is)
    obtain ⟨f_visits_of, fd_visits_of, d_visits_of⟩ : ∃ f fd, TB.Def _ mg "visits_of" TB.s_visits_of ["links", "tree", "tables", "start", "destination"] f fd := by
      refine' TB.def_mk (fun _ _ _ _ _ _ us hl => match us, hl with | [_, _, _, _, _], _ => rfl) KX G ?a ?l ?c ?k
      (case a => k_is)
      (case l => k_is)
      (case c => k_is)
      (case k => k_is)
    obtain ⟨f_learn, fd_learn, d_learn⟩ : ∃ f fd, TB.Def _ mg "learn" TB.s_learn ["tables", "visits", "source"] f fd := by
      refine' TB.def_mk (fun _ _ _ _ _ _ us hl => match us, hl with | [_, _, _], _ => rfl) KX G ?a ?l ?c ?k
      (case a => k_is)
      (case l => k_is)
      (case c => k_is)
      (case k => k_is)
    obtain ⟨f_tree_links, fd_tree_links, d_tree_links⟩ : ∃ f fd, TB.Def _ mg "tree_links" TB.s_tree_links ["ids", "links"] f fd := by
      refine' TB.def_mk (fun _ _ _ _ _ _ us hl => match us, hl with | [_, _], _ => rfl) KX G ?a ?l ?c ?k
      (case a => k_is)
      (case l => k_is)
      (case c => k_is)
      (case k => k_is)
    obtain ⟨f_up_links, fd_up_links, d_up_links⟩ : ∃ f fd, TB.Def _ mg "up_links" TB.s_up_links ["links"] f fd := by
      refine' TB.def_mk (fun _ _ _ _ _ _ us hl => match us, hl with | [_], _ => rfl) KX G ?a ?l ?c ?k
      (case a => k_is)
      (case l => k_is)
      (case c => k_is)
      (case k => k_is)
    obtain ⟨f_neighbors_over, fd_neighbors_over, d_neighbors_over⟩ : ∃ f fd, TB.Def _ mg "neighbors_over" TB.s_neighbors_over ["links", "chosen", "bridge"] f fd := by
      refine' TB.def_mk (fun _ _ _ _ _ _ us hl => match us, hl with | [_, _, _], _ => rfl) KX G ?a ?l ?c ?k
      (case a => k_is)
      (case l => k_is)
      (case c => k_is)
      (case k => k_is)
    obtain ⟨f_trails_from, fd_trails_from, d_trails_from⟩ : ∃ f fd, TB.Def _ mg "trails_from" TB.s_trails_from ["links", "chosen", "bridge"] f fd := by
      refine' TB.def_mk (fun _ _ _ _ _ _ us hl => match us, hl with | [_, _, _], _ => rfl) KX G ?a ?l ?c ?k
      (case a => k_is)
      (case l => k_is)
      (case c => k_is)
      (case k => k_is)
    obtain ⟨f_connected_bridges, fd_connected_bridges, d_connected_bridges⟩ : ∃ f fd, TB.Def _ mg "connected_bridges" TB.s_connected_bridges ["links", "bridge"] f fd := by
      refine' TB.def_mk (fun _ _ _ _ _ _ us hl => match us, hl with | [_, _], _ => rfl) KX G ?a ?l ?c ?k
      (case a => k_is)
      (case l => k_is)
      (case c => k_is)
      (case k => k_is)
    obtain ⟨f_tree_path, fd_tree_path, d_tree_path⟩ : ∃ f fd, TB.Def _ mg "tree_path" TB.s_tree_path ["ids", "links", "start", "goal"] f fd := by
      refine' TB.def_mk (fun _ _ _ _ _ _ us hl => match us, hl with | [_, _, _, _], _ => rfl) KX G ?a ?l ?c ?k
      (case a => k_is)
      (case l => k_is)
      (case c => k_is)
      (case k => k_is)
    obtain ⟨f_link_code, fd_link_code, d_link_code⟩ : ∃ f fd, TB.Def _ mg "link_code" TB.s_link_code ["index"] f fd := by
      refine' TB.def_mk (fun _ _ _ _ _ _ us hl => match us, hl with | [_], _ => rfl) KX G ?a ?l ?c ?k
      (case a => k_is)
      (case l => k_is)
      (case c => k_is)
      (case k => k_is)
    obtain ⟨f_is_cost, fd_is_cost, d_is_cost⟩ : ∃ f fd, TB.Def _ mg "is_cost" TB.s_is_cost ["cost"] f fd := by
      refine' TB.def_mk (fun _ _ _ _ _ _ us hl => match us, hl with | [_], _ => rfl) KX G ?a ?l ?c ?k
      (case a => k_is)
      (case l => k_is)
      (case c => k_is)
      (case k => k_is)
    obtain ⟨f_add_bridge, fd_add_bridge, d_add_bridge⟩ : ∃ f fd, TB.Def _ mg "add_bridge" TB.s_add_bridge ["network", "bridge_id"] f fd := by
      refine' TB.def_mk (fun _ _ _ _ _ _ us hl => match us, hl with | [_, _], _ => rfl) KX G ?a ?l ?c ?k
      (case a => k_is)
      (case l => k_is)
      (case c => k_is)
      (case k => k_is)
    obtain ⟨f_add_link, fd_add_link, d_add_link⟩ : ∃ f fd, TB.Def _ mg "add_link" TB.s_add_link ["network", "one", "other", "cost"] f fd := by
      refine' TB.def_mk (fun _ _ _ _ _ _ us hl => match us, hl with | [_, _, _, _], _ => rfl) KX G ?a ?l ?c ?k
      (case a => k_is)
      (case l => k_is)
      (case c => k_is)
      (case k => k_is)
    obtain ⟨f_link_down, fd_link_down, d_link_down⟩ : ∃ f fd, TB.Def _ mg "link_down" TB.s_link_down ["network", "number"] f fd := by
      refine' TB.def_mk (fun _ _ _ _ _ _ us hl => match us, hl with | [_, _], _ => rfl) KX G ?a ?l ?c ?k
      (case a => k_is)
      (case l => k_is)
      (case c => k_is)
      (case k => k_is)
    obtain ⟨f_link_up, fd_link_up, d_link_up⟩ : ∃ f fd, TB.Def _ mg "link_up" TB.s_link_up ["network", "number"] f fd := by
      refine' TB.def_mk (fun _ _ _ _ _ _ us hl => match us, hl with | [_, _], _ => rfl) KX G ?a ?l ?c ?k
      (case a => k_is)
      (case l => k_is)
      (case c => k_is)
      (case k => k_is)
    obtain ⟨f_set_cost, fd_set_cost, d_set_cost⟩ : ∃ f fd, TB.Def _ mg "set_cost" TB.s_set_cost ["network", "number", "cost"] f fd := by
      refine' TB.def_mk (fun _ _ _ _ _ _ us hl => match us, hl with | [_, _, _], _ => rfl) KX G ?a ?l ?c ?k
      (case a => k_is)
      (case l => k_is)
      (case c => k_is)
      (case k => k_is)
    obtain ⟨f_set_bridge_id, fd_set_bridge_id, d_set_bridge_id⟩ : ∃ f fd, TB.Def _ mg "set_bridge_id" TB.s_set_bridge_id ["network", "bridge", "bridge_id"] f fd := by
      refine' TB.def_mk (fun _ _ _ _ _ _ us hl => match us, hl with | [_, _, _], _ => rfl) KX G ?a ?l ?c ?k
      (case a => k_is)
      (case l => k_is)
      (case c => k_is)
      (case k => k_is)
    obtain ⟨f_place_host, fd_place_host, d_place_host⟩ : ∃ f fd, TB.Def _ mg "place_host" TB.s_place_host ["network", "host", "bridge"] f fd := by
      refine' TB.def_mk (fun _ _ _ _ _ _ us hl => match us, hl with | [_, _, _], _ => rfl) KX G ?a ?l ?c ?k
      (case a => k_is)
      (case l => k_is)
      (case c => k_is)
      (case k => k_is)
    obtain ⟨f_send_frame, fd_send_frame, d_send_frame⟩ : ∃ f fd, TB.Def _ mg "send_frame" TB.s_send_frame ["network", "source", "destination"] f fd := by
      refine' TB.def_mk (fun _ _ _ _ _ _ us hl => match us, hl with | [_, _, _], _ => rfl) KX G ?a ?l ?c ?k
      (case a => k_is)
      (case l => k_is)
      (case c => k_is)
      (case k => k_is)
    obtain ⟨f_flush_tables, fd_flush_tables, d_flush_tables⟩ : ∃ f fd, TB.Def _ mg "flush_tables" TB.s_flush_tables ["network"] f fd := by
      refine' TB.def_mk (fun _ _ _ _ _ _ us hl => match us, hl with | [_], _ => rfl) KX G ?a ?l ?c ?k
      (case a => k_is)
      (case l => k_is)
      (case c => k_is)
      (case k => k_is)
    obtain ⟨f_path_fields, fd_path_fields, d_path_fields⟩ : ∃ f fd, TB.Def _ mg "path_fields" TB.s_path_fields ["path"] f fd := by
      refine' TB.def_mk (fun _ _ _ _ _ _ us hl => match us, hl with | [_], _ => rfl) KX G ?a ?l ?c ?k
      (case a => k_is)
      (case l => k_is)
      (case c => k_is)
      (case k => k_is)
    obtain ⟨f_root_paths_after, fd_root_paths_after, d_root_paths_after⟩ : ∃ f fd, TB.Def _ mg "root_paths_after" TB.s_root_paths_after ["network", "rounds"] f fd := by
      refine' TB.def_mk (fun _ _ _ _ _ _ us hl => match us, hl with | [_, _], _ => rfl) KX G ?a ?l ?c ?k
      (case a => k_is)
      (case l => k_is)
      (case c => k_is)
      (case k => k_is)
    obtain ⟨f_needed_rounds, fd_needed_rounds, d_needed_rounds⟩ : ∃ f fd, TB.Def _ mg "needed_rounds" TB.s_needed_rounds ["network"] f fd := by
      refine' TB.def_mk (fun _ _ _ _ _ _ us hl => match us, hl with | [_], _ => rfl) KX G ?a ?l ?c ?k
      (case a => k_is)
      (case l => k_is)
      (case c => k_is)
      (case k => k_is)
    obtain ⟨f_all_tree_links, fd_all_tree_links, d_all_tree_links⟩ : ∃ f fd, TB.Def _ mg "all_tree_links" TB.s_all_tree_links ["network"] f fd := by
      refine' TB.def_mk (fun _ _ _ _ _ _ us hl => match us, hl with | [_], _ => rfl) KX G ?a ?l ?c ?k
      (case a => k_is)
      (case l => k_is)
      (case c => k_is)
      (case k => k_is)
    obtain ⟨f_root_path, fd_root_path, d_root_path⟩ : ∃ f fd, TB.Def _ mg "root_path" TB.s_root_path ["network", "bridge"] f fd := by
      refine' TB.def_mk (fun _ _ _ _ _ _ us hl => match us, hl with | [_, _], _ => rfl) KX G ?a ?l ?c ?k
      (case a => k_is)
      (case l => k_is)
      (case c => k_is)
      (case k => k_is)
    obtain ⟨f_path_between, fd_path_between, d_path_between⟩ : ∃ f fd, TB.Def _ mg "path_between" TB.s_path_between ["network", "start", "goal"] f fd := by
      refine' TB.def_mk (fun _ _ _ _ _ _ us hl => match us, hl with | [_, _, _], _ => rfl) KX G ?a ?l ?c ?k
      (case a => k_is)
      (case l => k_is)
      (case c => k_is)
      (case k => k_is)
    obtain ⟨f_bridges_connected_to, fd_bridges_connected_to, d_bridges_connected_to⟩ : ∃ f fd, TB.Def _ mg "bridges_connected_to" TB.s_bridges_connected_to ["network", "bridge"] f fd := by
      refine' TB.def_mk (fun _ _ _ _ _ _ us hl => match us, hl with | [_, _], _ => rfl) KX G ?a ?l ?c ?k
      (case a => k_is)
      (case l => k_is)
      (case c => k_is)
      (case k => k_is)
    obtain ⟨f_learned_entries, fd_learned_entries, d_learned_entries⟩ : ∃ f fd, TB.Def _ mg "learned_entries" TB.s_learned_entries ["network", "host"] f fd := by
      refine' TB.def_mk (fun _ _ _ _ _ _ us hl => match us, hl with | [_, _], _ => rfl) KX G ?a ?l ?c ?k
      (case a => k_is)
      (case l => k_is)
      (case c => k_is)
      (case k => k_is)
    obtain ⟨f_preview_link_down, fd_preview_link_down, d_preview_link_down⟩ : ∃ f fd, TB.Def _ mg "preview_link_down" TB.s_preview_link_down ["network", "number"] f fd := by
      refine' TB.def_mk (fun _ _ _ _ _ _ us hl => match us, hl with | [_, _], _ => rfl) KX G ?a ?l ?c ?k
      (case a => k_is)
      (case l => k_is)
      (case c => k_is)
      (case k => k_is)
    obtain ⟨f_topology, fd_topology, d_topology⟩ : ∃ f fd, TB.Def _ mg "topology" TB.s_topology ["network"] f fd := by
      refine' TB.def_mk (fun _ _ _ _ _ _ us hl => match us, hl with | [_], _ => rfl) KX G ?a ?l ?c ?k
      (case a => k_is)
      (case l => k_is)
      (case c => k_is)
      (case k => k_is)
    obtain ⟨f_changed, fd_changed, d_changed⟩ : ∃ f fd, TB.Def _ mg "changed" TB.s_changed ["network", "call", "given"] f fd := by
      refine' TB.def_mk (fun _ _ _ _ _ _ us hl => match us, hl with | [_, _, _], _ => rfl) KX G ?a ?l ?c ?k
      (case a => k_is)
      (case l => k_is)
      (case c => k_is)
      (case k => k_is)
    obtain ⟨f_told, fd_told, d_told⟩ : ∃ f fd, TB.Def _ mg "told" TB.s_told ["network", "call", "given"] f fd := by
      refine' TB.def_mk (fun _ _ _ _ _ _ us hl => match us, hl with | [_, _, _], _ => rfl) KX G ?a ?l ?c ?k
      (case a => k_is)
      (case l => k_is)
      (case c => k_is)
      (case k => k_is)
    obtain ⟨f_forwarded, fd_forwarded, d_forwarded⟩ : ∃ f fd, TB.Def _ mg "forwarded" TB.s_forwarded ["network", "call", "given"] f fd := by
      refine' TB.def_mk (fun _ _ _ _ _ _ us hl => match us, hl with | [_, _, _], _ => rfl) KX G ?a ?l ?c ?k
      (case a => k_is)
      (case l => k_is)
      (case c => k_is)
      (case k => k_is)
    obtain ⟨f_answer, fd_answer, d_answer⟩ : ∃ f fd, TB.Def _ mg "answer" TB.s_answer ["network", "call", "given"] f fd := by
      refine' TB.def_mk (fun _ _ _ _ _ _ us hl => match us, hl with | [_, _, _], _ => rfl) KX G ?a ?l ?c ?k
      (case a => k_is)
      (case l => k_is)
      (case c => k_is)
      (case k => k_is)
    obtain ⟨f_answers, fd_answers, d_answers⟩ : ∃ f fd, TB.Def _ mg "answers" TB.s_answers ["calls"] f fd := by
      refine' TB.def_mk (fun _ _ _ _ _ _ us hl => match us, hl with | [_], _ => rfl) KX G ?a ?l ?c ?k
      (case a => k_is)
      (case l => k_is)
      (case c => k_is)
      (case k => k_is)
    have qM : TB.AllMany KX G := by
      refine' ⟨_, PySem.W.mg_of KX G ?a, TB.many_mk ?l⟩
      (case a => k_is)
      (case l => k_is)
    obtain ⟨tM, cM, sM⟩ := qM
    have v_NONE : ∃ t, mg "NONE" = some (.int (-1) t) := by
      refine' TB.cst_mk KX G ?a
      (case a => k_is)
    have v_ROOT_ID : ∃ t, mg "ROOT_ID" = some (.int (0) t) := by
      refine' TB.cst_mk KX G ?a
      (case a => k_is)
    have v_COST : ∃ t, mg "COST" = some (.int (1) t) := by
      refine' TB.cst_mk KX G ?a
      (case a => k_is)
    have v_VIA : ∃ t, mg "VIA" = some (.int (3) t) := by
      refine' TB.cst_mk KX G ?a
      (case a => k_is)
    have v_NOT_THERE : ∃ t, mg "NOT_THERE" = some (.int (-2) t) := by
      refine' TB.cst_mk KX G ?a
      (case a => k_is)
    have v_ALREADY_DOWN : ∃ t, mg "ALREADY_DOWN" = some (.int (-6) t) := by
      refine' TB.cst_mk KX G ?a
      (case a => k_is)
    have v_NO_NETWORK : ∃ t, mg "NO_NETWORK" = some (.int (-11) t) := by
      refine' TB.cst_mk KX G ?a
      (case a => k_is)
    have v_IN_USE : ∃ t, mg "IN_USE" = some (.int (-17) t) := by
      refine' TB.cst_mk KX G ?a
      (case a => k_is)
    have v_OUT_OF_RANGE : ∃ t, mg "OUT_OF_RANGE" = some (.int (-22) t) := by
      refine' TB.cst_mk KX G ?a
      (case a => k_is)
    have v_FULL : ∃ t, mg "FULL" = some (.int (-28) t) := by
      refine' TB.cst_mk KX G ?a
      (case a => k_is)
    have v_NOT_CONNECTED : ∃ t, mg "NOT_CONNECTED" = some (.int (-33) t) := by
      refine' TB.cst_mk KX G ?a
      (case a => k_is)
    have v_MOST_BRIDGES : ∃ t, mg "MOST_BRIDGES" = some (.int (7) t) := by
      refine' TB.cst_mk KX G ?a
      (case a => k_is)
    have v_MOST_LINKS : ∃ t, mg "MOST_LINKS" = some (.int (12) t) := by
      refine' TB.cst_mk KX G ?a
      (case a => k_is)
    have v_MOST_ID : ∃ t, mg "MOST_ID" = some (.int (9999) t) := by
      refine' TB.cst_mk KX G ?a
      (case a => k_is)
    have v_MOST_COST : ∃ t, mg "MOST_COST" = some (.int (99) t) := by
      refine' TB.cst_mk KX G ?a
      (case a => k_is)
    have v_MOST_HOST : ∃ t, mg "MOST_HOST" = some (.int (99) t) := by
      refine' TB.cst_mk KX G ?a
      (case a => k_is)
    have v_MOST_ROUNDS : ∃ t, mg "MOST_ROUNDS" = some (.int (20) t) := by
      refine' TB.cst_mk KX G ?a
      (case a => k_is)
    have v_RESET : ∃ t, mg "RESET" = some (.int (0) t) := by
      refine' TB.cst_mk KX G ?a
      (case a => k_is)
    have b_len : mg "len" = none := by
      refine' TB.none_mk KX G ?a
      (case a => k_is)
    have b_range : mg "range" = none := by
      refine' TB.none_mk KX G ?a
      (case a => k_is)
    have b_int : mg "int" = none := by
      refine' TB.none_mk KX G ?a
      (case a => k_is)
    have b_min : mg "min" = none := by
      refine' TB.none_mk KX G ?a
      (case a => k_is)
    have b_sum : mg "sum" = none := by
      refine' TB.none_mk KX G ?a
      (case a => k_is)
    have b_sorted : mg "sorted" = none := by
      refine' TB.none_mk KX G ?a
      (case a => k_is)
    have e := hmg.symm.trans d_answers.mg
    cases e
    have T : TB.Txt _ mg CN CL tM := ⟨oN.cl, oL.cl, n_ids, n_links, n_hosts, n_tables, n_one, n_other, n_cost, n_is_up, b_len, b_range, b_int, b_min, b_sum, b_sorted, v_NONE, v_ROOT_ID, v_COST, v_VIA, v_NOT_THERE, v_ALREADY_DOWN, v_NO_NETWORK, v_IN_USE, v_OUT_OF_RANGE, v_FULL, v_NOT_CONNECTED, v_MOST_BRIDGES, v_MOST_LINKS, v_MOST_ID, v_MOST_COST, v_MOST_HOST, v_MOST_ROUNDS, v_RESET, cM, sM⟩
    exact ⟨fd_answers, d_answers.bt, fun base _ _ => TB.all_ok T oN oL d_Link_init d_is_at d_far_end d_links_at d_with_down d_own_path d_path_over d_next_path d_first_paths d_next_paths d_paths_after d_converged_paths d_rounds_to_converge d_links_for d_visits_of d_learn d_Network_init d_Network_forget d_Network_has_bridge d_Network_has_link d_tree_links d_up_links d_neighbors_over d_trails_from d_connected_bridges d_tree_path d_link_code d_is_cost d_add_bridge d_add_link d_link_down d_link_up d_set_cost d_set_bridge_id d_place_host d_send_frame d_flush_tables d_path_fields d_root_paths_after d_needed_rounds d_all_tree_links d_root_path d_path_between d_bridges_connected_to d_learned_entries d_preview_link_down d_topology d_changed d_told d_forwarded d_answer d_answers⟩
  case S =>
    intro K H xs a hO hwi hask hx
    cases hx with
    | cons h1 h2 =>
      cases h2
      cases h1 with
      | lst hs ha =>
        have e := L2.ints_dw a.1 _ ha
        subst e
        exact ⟨_, a.1, rfl, hs, hask, fun H' p hp => .lst (L2.SqL.of hp) (L2.dw_ints _)⟩
#print axioms PySem.Challenge.cw_treebridgeworks_s01_answers_holds
