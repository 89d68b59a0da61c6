import PyProof.Rows.All
import Wide.All
import OpenK.AllK
import Wide.FinOn
import Open.SpecLaws
import KE.OsGo
import HandS.ForSpec
import HandS.ForMost
import HandS.More
import HandS.NoneIn
import HandS.Conv
import HandS.Wide
import HandS.Style
import PySem.Challenge.RW_firebreaks_s01_answers
set_option Elab.async false
set_option maxRecDepth 100000
set_option maxHeartbeats 4000000
/-! The mathematics of the forest: neighbours, ways, Bellman's rounds, Dijkstra's invariant. Plain Lean, no program. -/
namespace Fb
open Sw96

/-- what holds of a forest between two calls -/
structure Wf (f : Forest) : Prop where
  w1 : 1 ≤ f.width
  w5 : f.width ≤ 5
  full : f.places.length % f.width = 0
  len : f.places.length ≤ 25
  slow : ∀ p ∈ f.places, p.slow ≤ 60
  worth : ∀ p ∈ f.places, p.worth ≤ 1000
  wlen : f.wind.length = 4
  wind : ∀ x ∈ f.wind, 1 ≤ x ∧ x ≤ 9
  fnd : f.fires.Nodup
  flt : ∀ i ∈ f.fires, i < f.places.length ∧ f.slow i ≠ 0

/-- the number of the wind in a direction -/
def wd (f : Forest) (d : Nat) : Nat := f.wind.getD d 1

/-- a place's neighbours with the wind's numbers, as the program lists them -/
def nbrs (f : Forest) (i : Nat) : List (Nat × Nat) :=
  (if f.width ≤ i then [(i - f.width, wd f 0)] else []) ++ ((if i % f.width + 1 < f.width then [(i + 1, wd f 1)] else []) ++
    ((if i + f.width < f.places.length then [(i + f.width, wd f 2)] else []) ++ (if 0 < i % f.width then [(i - 1, wd f 3)] else [])))

def burns (f : Forest) (b : List Nat) (j : Nat) : Bool := decide (0 < f.slow j) && !b.contains j

/-- the ways from a place, as the program lists them -/
def ways (f : Forest) (b : List Nat) (i : Nat) : List (Nat × Nat) :=
  ((nbrs f i).filter fun x => burns f b x.1).map fun x => (x.1, x.2 * (f.slow i + f.slow x.1))

theorem slow_lt {f : Forest} {j : Nat} (h : f.slow j ≠ 0) : j < f.places.length := by
  unfold Forest.slow at h
  by_cases c : j < f.places.length
  · exact c
  · rw [List.getElem?_eq_none (by omega)] at h
    exact absurd rfl h

/-- one more than a number, by rows -/
theorem mod_succ {i w : Nat} (hw : 1 ≤ w) : i % w + 1 < w ↔ (i + 1) % w ≠ 0 := by
  have h1 : i % w < w := Nat.mod_lt _ (by omega)
  have h2 : (i + 1) % w = (i % w + 1) % w := by rw [Nat.mod_add_mod]
  constructor
  · intro h
    rw [h2, Nat.mod_eq_of_lt h]
    omega
  · intro h
    by_cases c : i % w + 1 = w
    · rw [h2, c, Nat.mod_self] at h
      exact absurd rfl h
    · omega

theorem mod_succ_eq {i w : Nat} (hw : 1 ≤ w) (h : i % w + 1 < w) : (i + 1) % w = i % w + 1 := by
  have h2 : (i + 1) % w = (i % w + 1) % w := by rw [Nat.mod_add_mod]
  rw [h2, Nat.mod_eq_of_lt h]

theorem mod_pred {i w : Nat} (hw : 1 ≤ w) (h : 0 < i % w) : 0 < i ∧ (i - 1) % w + 1 < w := by
  have hi : 0 < i := by
    rcases Nat.eq_zero_or_pos i with e | e
    · rw [e, Nat.zero_mod] at h
      omega
    · exact e
  refine ⟨hi, ?_⟩
  rw [mod_succ hw, show i - 1 + 1 = i by omega]
  omega

theorem right_lt {f : Forest} (W : Wf f) {i : Nat} (hi : i < f.places.length) (h : i % f.width + 1 < f.width) : i + 1 < f.places.length := by
  have h2 := (mod_succ W.w1).mp h
  by_cases c : i + 1 = f.places.length
  · rw [c, W.full] at h2
    exact absurd rfl h2
  · omega

/-- j is a neighbour of i in a direction -/
def Nb (f : Forest) (i d j : Nat) : Prop :=
  (d = 0 ∧ f.width ≤ i ∧ j = i - f.width) ∨ (d = 1 ∧ i % f.width + 1 < f.width ∧ j = i + 1) ∨
  (d = 2 ∧ i + f.width < f.places.length ∧ j = i + f.width) ∨ (d = 3 ∧ 0 < i % f.width ∧ j = i - 1)

theorem mem_ite1 {α : Type} {c : Prop} [Decidable c] {a x : α} : x ∈ (if c then [a] else []) ↔ c ∧ x = a := by
  by_cases h : c
  · rw [if_pos h, List.mem_singleton]
    exact ⟨fun z => ⟨h, z⟩, fun z => z.2⟩
  · rw [if_neg h]
    exact ⟨fun z => absurd z List.not_mem_nil, fun z => absurd z.1 h⟩

theorem near_iff {f : Forest} (W : Wf f) {i d j : Nat} (hi : i < f.places.length) : (d, j) ∈ f.near i ↔ Nb f i d j := by
  have h1 := mod_succ (i := i) W.w1
  have h2 := right_lt W hi
  unfold Forest.near Nb
  rw [List.mem_append, List.mem_append, List.mem_append, mem_ite1, mem_ite1, mem_ite1, mem_ite1]
  simp only [Prod.mk.injEq]
  constructor
  · rintro (⟨c, rfl, rfl⟩ | ⟨c, rfl, rfl⟩ | ⟨c, rfl, rfl⟩ | ⟨c, rfl, rfl⟩)
    · exact .inl ⟨rfl, c, rfl⟩
    · exact .inr (.inl ⟨rfl, h1.mpr c.1, rfl⟩)
    · exact .inr (.inr (.inl ⟨rfl, c, rfl⟩))
    · exact .inr (.inr (.inr ⟨rfl, by omega, rfl⟩))
  · rintro (⟨rfl, c, rfl⟩ | ⟨rfl, c, rfl⟩ | ⟨rfl, c, rfl⟩ | ⟨rfl, c, rfl⟩)
    · exact .inl ⟨c, rfl, rfl⟩
    · exact .inr (.inl ⟨⟨h1.mp c, h2 c⟩, rfl, rfl⟩)
    · exact .inr (.inr (.inl ⟨c, rfl, rfl⟩))
    · exact .inr (.inr (.inr ⟨by omega, rfl, rfl⟩))

theorem nbrs_iff {f : Forest} {i j x : Nat} : (j, x) ∈ nbrs f i ↔ ∃ d, Nb f i d j ∧ x = wd f d := by
  unfold nbrs Nb
  constructor
  · intro h
    simp only [List.mem_append] at h
    rcases h with h | h | h | h
    · by_cases c : f.width ≤ i
      · rw [if_pos c, List.mem_singleton] at h
        cases h
        exact ⟨0, .inl ⟨rfl, c, rfl⟩, rfl⟩
      · rw [if_neg c] at h
        cases h
    · by_cases c : i % f.width + 1 < f.width
      · rw [if_pos c, List.mem_singleton] at h
        cases h
        exact ⟨1, .inr (.inl ⟨rfl, c, rfl⟩), rfl⟩
      · rw [if_neg c] at h
        cases h
    · by_cases c : i + f.width < f.places.length
      · rw [if_pos c, List.mem_singleton] at h
        cases h
        exact ⟨2, .inr (.inr (.inl ⟨rfl, c, rfl⟩)), rfl⟩
      · rw [if_neg c] at h
        cases h
    · by_cases c : 0 < i % f.width
      · rw [if_pos c, List.mem_singleton] at h
        cases h
        exact ⟨3, .inr (.inr (.inr ⟨rfl, c, rfl⟩)), rfl⟩
      · rw [if_neg c] at h
        cases h
  · rintro ⟨d, h, rfl⟩
    simp only [List.mem_append]
    rcases h with ⟨rfl, c, rfl⟩ | ⟨rfl, c, rfl⟩ | ⟨rfl, c, rfl⟩ | ⟨rfl, c, rfl⟩
    · exact .inl (by rw [if_pos c]; exact List.mem_singleton.mpr rfl)
    · exact .inr (.inl (by rw [if_pos c]; exact List.mem_singleton.mpr rfl))
    · exact .inr (.inr (.inl (by rw [if_pos c]; exact List.mem_singleton.mpr rfl)))
    · exact .inr (.inr (.inr (by rw [if_pos c]; exact List.mem_singleton.mpr rfl)))

theorem nb_lt {f : Forest} (W : Wf f) {i d j : Nat} (hi : i < f.places.length) (h : Nb f i d j) : j < f.places.length := by
  rcases h with ⟨rfl, c, rfl⟩ | ⟨rfl, c, rfl⟩ | ⟨rfl, c, rfl⟩ | ⟨rfl, c, rfl⟩
  · omega
  · exact right_lt W hi c
  · exact c
  · omega

/-- neighbours are so both ways, the direction turned -/
theorem nb_turn {f : Forest} (W : Wf f) {i d j : Nat} (hi : i < f.places.length) (h : Nb f i d j) : d < 4 ∧ Nb f j ((d + 2) % 4) i := by
  have w1 := W.w1
  rcases h with ⟨rfl, c, rfl⟩ | ⟨rfl, c, rfl⟩ | ⟨rfl, c, rfl⟩ | ⟨rfl, c, rfl⟩
  · exact ⟨by omega, .inr (.inr (.inl ⟨rfl, by omega, by omega⟩))⟩
  · refine ⟨by omega, .inr (.inr (.inr ⟨rfl, ?_, by omega⟩))⟩
    rw [mod_succ_eq W.w1 c]
    omega
  · exact ⟨by omega, .inl ⟨rfl, by omega, by omega⟩⟩
  · obtain ⟨h1, h2⟩ := mod_pred W.w1 c
    exact ⟨by omega, .inr (.inl ⟨rfl, h2, by omega⟩)⟩

theorem nbrs_lt {f : Forest} (W : Wf f) {i : Nat} (hi : i < f.places.length) {x : Nat × Nat} (h : x ∈ nbrs f i) : x.1 < f.places.length := by
  obtain ⟨d, hd, _⟩ := nbrs_iff.mp (show (x.1, x.2) ∈ nbrs f i from h)
  exact nb_lt W hi hd

/-- an edge that fire may take -/
def Edge (f : Forest) (b : List Nat) (i j c : Nat) : Prop := (j, c) ∈ ways f b i

/-- a place that burns and is no break -/
def Live (f : Forest) (b : List Nat) (i : Nat) : Prop := f.slow i ≠ 0 ∧ b.contains i = false

theorem burns_iff {f : Forest} {b : List Nat} {j : Nat} : burns f b j = true ↔ Live f b j := by
  unfold burns Live
  rw [Bool.and_eq_true, decide_eq_true_iff, Bool.not_eq_true', Nat.pos_iff_ne_zero]

theorem edge_iff {f : Forest} {b : List Nat} {i j c : Nat} : Edge f b i j c ↔ ∃ d, Nb f i d j ∧ Live f b j ∧ c = wd f d * (f.slow i + f.slow j) := by
  unfold Edge ways
  rw [List.mem_map]
  constructor
  · rintro ⟨⟨j', x⟩, hx, e⟩
    rw [List.mem_filter] at hx
    cases e
    obtain ⟨d, hd, rfl⟩ := nbrs_iff.mp hx.1
    exact ⟨d, hd, burns_iff.mp hx.2, rfl⟩
  · rintro ⟨d, hd, hl, rfl⟩
    exact ⟨(j, wd f d), List.mem_filter.mpr ⟨nbrs_iff.mpr ⟨d, hd, rfl⟩, burns_iff.mpr hl⟩, rfl⟩

theorem edge_live {f : Forest} {b : List Nat} {i j c : Nat} (h : Edge f b i j c) : Live f b j := by
  obtain ⟨d, _, hl, _⟩ := edge_iff.mp h
  exact hl

theorem time_iff {f : Forest} {b : List Nat} {i d j c : Nat} : f.time b i d j = some c ↔ Live f b i ∧ Live f b j ∧ c = wd f d * (f.slow i + f.slow j) := by
  unfold Forest.time Live wd
  by_cases h : f.slow i = 0 ∨ f.slow j = 0 ∨ b.contains i = true ∨ b.contains j = true
  · rw [if_pos h]
    constructor
    · intro z
      cases z
    · rintro ⟨⟨h1, h2⟩, ⟨h3, h4⟩, _⟩
      rcases h with h | h | h | h
      · exact absurd h h1
      · exact absurd h h3
      · rw [h2] at h
        cases h
      · rw [h4] at h
        cases h
  · rw [if_neg h]
    have h1 : f.slow i ≠ 0 := fun z => h (.inl z)
    have h2 : f.slow j ≠ 0 := fun z => h (.inr (.inl z))
    have h3 : b.contains i = false := by
      cases e : b.contains i
      · rfl
      · exact absurd (.inr (.inr (.inl e))) h
    have h4 : b.contains j = false := by
      cases e : b.contains j
      · rfl
      · exact absurd (.inr (.inr (.inr e))) h
    constructor
    · intro z
      exact ⟨⟨h1, h3⟩, ⟨h2, h4⟩, by rw [Nat.mul_comm]; exact (Option.some.inj z).symm⟩
    · rintro ⟨_, _, rfl⟩
      rw [Nat.mul_comm]

/-- the specification's neighbours, seen from the other side -/
theorem back_iff {f : Forest} (W : Wf f) {b : List Nat} {i j c : Nat} (hi : i < f.places.length) (hj : j < f.places.length) (hl : Live f b i) :
    Edge f b i j c ↔ ∃ d, (d, i) ∈ f.near j ∧ f.time b i ((d + 2) % 4) j = some c := by
  rw [edge_iff]
  constructor
  · rintro ⟨d, hd, hj', rfl⟩
    obtain ⟨d4, hb⟩ := nb_turn W hi hd
    refine ⟨(d + 2) % 4, (near_iff W hj).mpr hb, ?_⟩
    have e : ((d + 2) % 4 + 2) % 4 = d := by omega
    rw [e]
    exact time_iff.mpr ⟨hl, hj', rfl⟩
  · rintro ⟨d, hd, ht⟩
    have hd' := (near_iff W hj).mp hd
    obtain ⟨d4, hb⟩ := nb_turn W hj hd'
    obtain ⟨_, h2, h3⟩ := time_iff.mp ht
    exact ⟨(d + 2) % 4, hb, h2, h3⟩

/-! ### One round of the specification -/
def LeO (s : Nat) (o : Option Nat) : Prop := ∃ a, o = some a ∧ a ≤ s

theorem sooner_left {m y : Option Nat} {s : Nat} (h : LeO s m) : LeO s (sooner m y) := by
  obtain ⟨a, rfl, ha⟩ := h
  cases y with
  | none => exact ⟨a, rfl, ha⟩
  | some z => exact ⟨min a z, rfl, by omega⟩

theorem sooner_right {m y : Option Nat} {s : Nat} (h : LeO s y) : LeO s (sooner m y) := by
  obtain ⟨a, rfl, ha⟩ := h
  cases m with
  | none => exact ⟨a, rfl, ha⟩
  | some z => exact ⟨min z a, rfl, by omega⟩

theorem sooner_some {m y : Option Nat} {s : Nat} (h : sooner m y = some s) : m = some s ∨ y = some s := by
  cases m with
  | none => exact .inr h
  | some a =>
    cases y with
    | none => exact .inl h
    | some z =>
      have e : min a z = s := Option.some.inj h
      rcases Nat.le_total a z with c | c
      · rw [Nat.min_eq_left c] at e
        exact .inl (by rw [e])
      · rw [Nat.min_eq_right c] at e
        exact .inr (by rw [e])

theorem fold_left {α : Type} {g : α → Option Nat} {s : Nat} : ∀ (l : List α) {m : Option Nat}, LeO s m → LeO s (l.foldl (fun m x => sooner m (g x)) m)
  | [], _, h => h
  | x :: l, _, h => fold_left l (sooner_left h)

theorem fold_mem {α : Type} {g : α → Option Nat} {s : Nat} : ∀ (l : List α) {m : Option Nat} {x : α}, x ∈ l → LeO s (g x) → LeO s (l.foldl (fun m x => sooner m (g x)) m)
  | y :: l, m, x, hx, h => by
    rcases List.mem_cons.mp hx with e | e
    · subst e
      exact fold_left l (sooner_right h)
    · exact fold_mem l e h

theorem fold_some {α : Type} {g : α → Option Nat} {s : Nat} : ∀ (l : List α) {m : Option Nat}, l.foldl (fun m x => sooner m (g x)) m = some s → m = some s ∨ ∃ x ∈ l, g x = some s
  | [], _, h => .inl h
  | x :: l, m, h => by
    rcases fold_some l h with e | ⟨y, hy, e⟩
    · rcases sooner_some e with e | e
      · exact .inl e
      · exact .inr ⟨x, List.mem_cons_self, e⟩
    · exact .inr ⟨y, List.mem_cons_of_mem _ hy, e⟩

theorem getD_map_range {α : Type} {n j : Nat} (g : Nat → Option α) (h : j < n) : ((List.range n).map g).getD j none = g j := by
  rw [List.getD_eq_getElem?_getD, List.getElem?_map, List.getElem?_range h]
  rfl

theorem getD_map_out {α : Type} {n j : Nat} (g : Nat → Option α) (h : ¬ j < n) : ((List.range n).map g).getD j none = none := by
  rw [List.getD_eq_getElem?_getD, List.getElem?_eq_none (by rw [List.length_map, List.length_range]; omega)]
  rfl

theorem better_at {f : Forest} {b : List Nat} {t : List (Option Nat)} {j : Nat} (hj : j < f.places.length) :
    (f.better b t).getD j none = (f.near j).foldl (fun m x => sooner m ((t.getD x.2 none).bind fun a => (f.time b x.2 ((x.1 + 2) % 4) j).map fun c => a + c)) (t.getD j none) := by
  unfold Forest.better
  exact getD_map_range _ hj

theorem better_mono {f : Forest} {b : List Nat} {t : List (Option Nat)} {j s : Nat} (hj : j < f.places.length) (h : LeO s (t.getD j none)) : LeO s ((f.better b t).getD j none) := by
  rw [better_at hj]
  exact fold_left _ h

theorem better_edge {f : Forest} (W : Wf f) {b : List Nat} {t : List (Option Nat)} {i j c s : Nat} (hi : i < f.places.length) (hj : j < f.places.length) (hl : Live f b i) (he : Edge f b i j c) (h : LeO s (t.getD i none)) :
    LeO (s + c) ((f.better b t).getD j none) := by
  rw [better_at hj]
  obtain ⟨d, hd, ht⟩ := (back_iff W hi hj hl).mp he
  obtain ⟨a, ea, ha⟩ := h
  refine fold_mem (f.near j) hd ?_
  refine ⟨a + c, ?_, by omega⟩
  show ((t.getD i none).bind fun a => (f.time b i ((d + 2) % 4) j).map fun c => a + c) = some (a + c)
  rw [ea, ht]
  rfl

theorem better_some {f : Forest} (W : Wf f) {b : List Nat} {t : List (Option Nat)} {j s : Nat} (hj : j < f.places.length) (h : (f.better b t).getD j none = some s) :
    t.getD j none = some s ∨ ∃ i a c, i < f.places.length ∧ t.getD i none = some a ∧ Edge f b i j c ∧ s = a + c := by
  rw [better_at hj] at h
  rcases fold_some _ h with e | ⟨⟨d, i⟩, hx, e⟩
  · exact .inl e
  · right
    have e' : ((t.getD i none).bind fun a => (f.time b i ((d + 2) % 4) j).map fun c => a + c) = some s := e
    cases e1 : t.getD i none with
    | none =>
      rw [e1] at e'
      cases e'
    | some a =>
      rw [e1] at e'
      have e2 : (f.time b i ((d + 2) % 4) j).map (fun c => a + c) = some s := e'
      cases e3 : f.time b i ((d + 2) % 4) j with
      | none =>
        rw [e3] at e2
        cases e2
      | some c =>
        rw [e3] at e2
        obtain ⟨hl, _, _⟩ := time_iff.mp e3
        have hi := slow_lt hl.1
        exact ⟨i, a, c, hi, e1, (back_iff W hi hj hl).mpr ⟨d, hx, e3⟩, (Option.some.inj e2).symm⟩

theorem settle_succ (f : Forest) (b : List Nat) : ∀ (k : Nat) (t : List (Option Nat)), f.settle b (k + 1) t = f.better b (f.settle b k t)
  | 0, _ => rfl
  | k + 1, t => settle_succ f b k (f.better b t)

/-- what is known ahead of the first round -/
def init0 (f : Forest) (b : List Nat) : List (Option Nat) := (List.range f.places.length).map fun i => if f.fires.contains i = true ∧ f.slow i ≠ 0 ∧ b.contains i = false then some 0 else none

def rnd (f : Forest) (b : List Nat) (k : Nat) : List (Option Nat) := f.settle b k (init0 f b)

theorem comes_rnd (f : Forest) (b : List Nat) : f.comes b = rnd f b f.places.length := rfl

theorem rnd_succ (f : Forest) (b : List Nat) (k : Nat) : rnd f b (k + 1) = f.better b (rnd f b k) := settle_succ f b k _

theorem rnd_mono {f : Forest} {b : List Nat} {j s : Nat} (hj : j < f.places.length) : ∀ {k m : Nat}, k ≤ m → LeO s ((rnd f b k).getD j none) → LeO s ((rnd f b m).getD j none) := by
  intro k m h
  induction h with
  | refl => exact fun z => z
  | step _ ih =>
    intro z
    rw [rnd_succ]
    exact better_mono hj (ih z)

theorem length_rnd (f : Forest) (b : List Nat) : ∀ k, (rnd f b k).length = f.places.length
  | 0 => by simp [rnd, Forest.settle, init0]
  | k + 1 => by rw [rnd_succ]; simp [Forest.better]

/-! ### The loop of the program -/
def set (T : Nat → Nat) (o x : Nat) : Nat → Nat := fun i => if i = o then x else T i

theorem set_at {T : Nat → Nat} {o x : Nat} : set T o x o = x := if_pos rfl
theorem set_ne {T : Nat → Nat} {o x i : Nat} (h : i ≠ o) : set T o x i = T i := if_neg h

/-- a key put into keys -/
def addK (ks : List Nat) (o : Nat) : List Nat := if o ∈ ks then ks else ks ++ [o]

theorem mem_addK {ks : List Nat} {o i : Nat} : i ∈ addK ks o ↔ i ∈ ks ∨ i = o := by
  unfold addK
  by_cases c : o ∈ ks
  · rw [if_pos c]
    constructor
    · exact .inl
    · rintro (h | rfl)
      · exact h
      · exact c
  · rw [if_neg c, List.mem_append, List.mem_singleton]

theorem nodup_addK {ks : List Nat} {o : Nat} (h : ks.Nodup) : (addK ks o).Nodup := by
  unfold addK
  by_cases c : o ∈ ks
  · rw [if_pos c]
    exact h
  · rw [if_neg c]
    rw [List.nodup_append]
    refine ⟨h, by simp, ?_⟩
    intro a ha x hx
    rw [List.mem_singleton] at hx
    subst hx
    rintro rfl
    exact c ha

/-- keys and times that are found, places that are done -/
structure Inv (f : Forest) (b : List Nat) (ks : List Nat) (T : Nat → Nat) (ds : List Nat) : Prop where
  nd : ks.Nodup
  live : ∀ i ∈ ks, Live f b i
  dnd : ds.Nodup
  sub : ∀ i ∈ ds, i ∈ ks
  fire : ∀ i ∈ f.fires, i ∈ ks ∧ T i = 0
  clo : ∀ i ∈ ds, ∀ j c, Edge f b i j c → j ∈ ks ∧ T j ≤ T i + c
  ord : ∀ i ∈ ds, ∀ j ∈ ks, j ∉ ds → T i ≤ T j
  set : ∀ j ∈ ks, LeO (T j) ((rnd f b ds.length).getD j none)

/-- the same while the ways from p are gone through -/
structure Inn (f : Forest) (b : List Nat) (ks : List Nat) (T : Nat → Nat) (ds : List Nat) (p : Nat) (pre : List (Nat × Nat)) : Prop where
  nd : ks.Nodup
  live : ∀ i ∈ ks, Live f b i
  dnd : (ds ++ [p]).Nodup
  sub : ∀ i ∈ ds ++ [p], i ∈ ks
  fire : ∀ i ∈ f.fires, i ∈ ks ∧ T i = 0
  clo : ∀ i ∈ ds, ∀ j c, Edge f b i j c → j ∈ ks ∧ T j ≤ T i + c
  cloP : ∀ x ∈ pre, x.1 ∈ ks ∧ T x.1 ≤ T p + x.2
  ordP : ∀ i ∈ ds ++ [p], T i ≤ T p
  ord : ∀ i ∈ ds ++ [p], ∀ j ∈ ks, j ∉ ds ++ [p] → T i ≤ T j
  setP : LeO (T p) ((rnd f b ds.length).getD p none)
  set : ∀ j ∈ ks, LeO (T j) ((rnd f b (ds.length + 1)).getD j none)

theorem Inv.start {f : Forest} (W : Wf f) {b : List Nat} (hb : ∀ i ∈ f.fires, i ∉ b) : Inv f b f.fires (fun _ => 0) [] where
  nd := W.fnd
  live := fun i hi => ⟨(W.flt i hi).2, by
    cases e : b.contains i
    · rfl
    · exact absurd (List.contains_iff_mem.mp e) (hb i hi)⟩
  dnd := List.nodup_nil
  sub := fun i hi => by cases hi
  fire := fun i hi => ⟨hi, rfl⟩
  clo := fun i hi => by cases hi
  ord := fun i hi => by cases hi
  set := fun j hj => by
    refine ⟨0, ?_, Nat.le_refl _⟩
    show (init0 f b).getD j none = some 0
    unfold init0
    rw [getD_map_range _ (W.flt j hj).1, if_pos]
    refine ⟨List.contains_iff_mem.mpr hj, (W.flt j hj).2, ?_⟩
    cases e : b.contains j
    · rfl
    · exact absurd (List.contains_iff_mem.mp e) (hb j hj)

theorem Inv.inn {f : Forest} {b ks : List Nat} {T : Nat → Nat} {ds : List Nat} {p : Nat} (I : Inv f b ks T ds) (hp : p ∈ ks) (hd : p ∉ ds) (hm : ∀ j ∈ ks, j ∉ ds → T p ≤ T j) : Inn f b ks T ds p [] where
  nd := I.nd
  live := I.live
  dnd := by
    rw [List.nodup_append]
    refine ⟨I.dnd, by simp, ?_⟩
    intro a ha x hx
    rw [List.mem_singleton] at hx
    subst hx
    rintro rfl
    exact hd ha
  sub := fun i hi => by
    rcases List.mem_append.mp hi with h | h
    · exact I.sub i h
    · rw [List.mem_singleton.mp h]
      exact hp
  fire := I.fire
  clo := I.clo
  cloP := fun x hx => by cases hx
  ordP := fun i hi => by
    rcases List.mem_append.mp hi with h | h
    · exact I.ord i h p hp hd
    · rw [List.mem_singleton.mp h]
      exact Nat.le_refl _
  ord := fun i hi j hj hn => by
    have hn' : j ∉ ds := fun z => hn (List.mem_append.mpr (.inl z))
    rcases List.mem_append.mp hi with h | h
    · exact I.ord i h j hj hn'
    · rw [List.mem_singleton.mp h]
      exact hm j hj hn'
  setP := I.set p hp
  set := fun j hj => rnd_mono (slow_lt (I.live j hj).1) (Nat.le_succ _) (I.set j hj)

theorem Inn.keep {f : Forest} {b ks : List Nat} {T : Nat → Nat} {ds : List Nat} {p : Nat} {pre : List (Nat × Nat)} (I : Inn f b ks T ds p pre) {o c : Nat} (ho : o ∈ ks) (hc : ¬ T p + c < T o) : Inn f b ks T ds p (pre ++ [(o, c)]) :=
  { I with
    cloP := fun x hx => by
      rcases List.mem_append.mp hx with h | h
      · exact I.cloP x h
      · rw [List.mem_singleton.mp h]
        exact ⟨ho, Nat.le_of_not_lt hc⟩ }

theorem Inn.put {f : Forest} (W : Wf f) {b ks : List Nat} {T : Nat → Nat} {ds : List Nat} {p : Nat} {pre : List (Nat × Nat)} (I : Inn f b ks T ds p pre) {o c : Nat} (he : Edge f b p o c) (ho : o ∉ ks ∨ T p + c < T o) :
    o ≠ p ∧ Inn f b (addK ks o) (Fb.set T o (T p + c)) ds p (pre ++ [(o, c)]) := by
  have hpm : p ∈ ds ++ [p] := List.mem_append.mpr (.inr (List.mem_singleton.mpr rfl))
  have hod : o ∉ ds ++ [p] := fun z => by
    rcases ho with h | h
    · exact h (I.sub o z)
    · have := I.ordP o z
      omega
  have hne : ∀ i ∈ ds ++ [p], i ≠ o := fun i hi e => hod (e ▸ hi)
  have hpo : p ≠ o := hne p hpm
  have hle : ∀ j ∈ ks, Fb.set T o (T p + c) j ≤ T j := fun j hj => by
    by_cases e : j = o
    · subst e
      rw [set_at]
      rcases ho with h | h
      · exact absurd hj h
      · omega
    · rw [set_ne e]
      exact Nat.le_refl _
  have hds : ∀ i ∈ ds, i ∈ ds ++ [p] := fun i hi => List.mem_append.mpr (.inl hi)
  have hlp := I.live p (I.sub p hpm)
  have hol := edge_live he
  refine ⟨fun e => hpo e.symm, ?_⟩
  exact
    { nd := nodup_addK I.nd
      live := fun i hi => by
        rcases mem_addK.mp hi with h | h
        · exact I.live i h
        · rw [h]
          exact hol
      dnd := I.dnd
      sub := fun i hi => mem_addK.mpr (.inl (I.sub i hi))
      fire := fun i hi => by
        obtain ⟨h1, h2⟩ := I.fire i hi
        refine ⟨mem_addK.mpr (.inl h1), ?_⟩
        have := hle i h1
        omega
      clo := fun i hi j e hj => by
        obtain ⟨h1, h2⟩ := I.clo i hi j e hj
        refine ⟨mem_addK.mpr (.inl h1), ?_⟩
        rw [set_ne (hne i (hds i hi))]
        have := hle j h1
        omega
      cloP := fun x hx => by
        rw [set_ne hpo]
        rcases List.mem_append.mp hx with h | h
        · obtain ⟨h1, h2⟩ := I.cloP x h
          refine ⟨mem_addK.mpr (.inl h1), ?_⟩
          have := hle x.1 h1
          omega
        · rw [List.mem_singleton.mp h]
          refine ⟨mem_addK.mpr (.inr rfl), ?_⟩
          show Fb.set T o (T p + c) o ≤ T p + c
          rw [set_at]
          exact Nat.le_refl _
      ordP := fun i hi => by
        rw [set_ne (hne i hi), set_ne hpo]
        exact I.ordP i hi
      ord := fun i hi j hj hn => by
        rw [set_ne (hne i hi)]
        have := I.ordP i hi
        by_cases e : j = o
        · subst e
          rw [set_at]
          omega
        · rw [set_ne e]
          rcases mem_addK.mp hj with h | h
          · exact I.ord i hi j h hn
          · exact absurd h e
      setP := by
        rw [set_ne hpo]
        exact I.setP
      set := fun j hj => by
        by_cases e : j = o
        · subst e
          rw [set_at, rnd_succ]
          exact better_edge W (slow_lt hlp.1) (slow_lt hol.1) hlp he I.setP
        · rw [set_ne e]
          rcases mem_addK.mp hj with h | h
          · exact I.set j h
          · exact absurd h e }

theorem Inn.out {f : Forest} {b ks : List Nat} {T : Nat → Nat} {ds : List Nat} {p : Nat} (I : Inn f b ks T ds p (ways f b p)) : Inv f b ks T (ds ++ [p]) where
  nd := I.nd
  live := I.live
  dnd := I.dnd
  sub := I.sub
  fire := I.fire
  clo := fun i hi j c he => by
    rcases List.mem_append.mp hi with h | h
    · exact I.clo i h j c he
    · rw [List.mem_singleton.mp h] at he ⊢
      exact I.cloP (j, c) he
  ord := I.ord
  set := by
    rw [List.length_append]
    exact I.set

/-! pigeons -/
theorem nodup_len : ∀ (n : Nat) (l : List Nat), l.Nodup → (∀ i ∈ l, i < n) → l.length ≤ n
  | 0, l, _, h => by
    cases l with
    | nil => exact Nat.le_refl _
    | cons a r => exact absurd (h a List.mem_cons_self) (by omega)
  | n + 1, l, hd, h => by
    have h1 := nodup_len n (l.erase n) (hd.erase n) (fun i hi => by
      have hm := List.mem_of_mem_erase hi
      have := h i hm
      have hne : i ≠ n := fun e => by
        subst e
        exact (List.Nodup.not_mem_erase hd) hi
      omega)
    have h2 := List.length_erase (a := n) (l := l)
    by_cases c : n ∈ l
    · rw [if_pos (by simpa using c)] at h2
      omega
    · rw [if_neg (by simpa using c)] at h2
      omega

theorem Inv.few {f : Forest} {b ks : List Nat} {T : Nat → Nat} {ds : List Nat} (I : Inv f b ks T ds) : ds.length ≤ f.places.length :=
  nodup_len _ _ I.dnd fun i hi => slow_lt (I.live i (I.sub i hi)).1

theorem Inv.keys {f : Forest} {b ks : List Nat} {T : Nat → Nat} {ds : List Nat} (I : Inv f b ks T ds) : ks.length ≤ f.places.length :=
  nodup_len _ _ I.nd fun i hi => slow_lt (I.live i hi).1

/-- what the found times are -/
structure Told (f : Forest) (b : List Nat) (ks : List Nat) (T : Nat → Nat) : Prop where
  nd : ks.Nodup
  lt : ∀ i ∈ ks, i < f.places.length
  at_ : ∀ j, j < f.places.length → (f.comes b).getD j none = if j ∈ ks then some (T j) else none

theorem Inv.told {f : Forest} (W : Wf f) {b ks : List Nat} {T : Nat → Nat} {ds : List Nat} (I : Inv f b ks T ds) (hall : ∀ i ∈ ks, i ∈ ds) : Told f b ks T where
  nd := I.nd
  lt := fun i hi => slow_lt (I.live i hi).1
  at_ := fun j hj => by
    have key : ∀ (k : Nat) (j s : Nat), j < f.places.length → (rnd f b k).getD j none = some s → j ∈ ks ∧ T j ≤ s := by
      intro k
      induction k with
      | zero =>
        intro j s hj h
        have h' : (init0 f b).getD j none = some s := h
        unfold init0 at h'
        rw [getD_map_range _ hj] at h'
        by_cases c : f.fires.contains j = true ∧ f.slow j ≠ 0 ∧ b.contains j = false
        · obtain ⟨h1, h2⟩ := I.fire j (List.contains_iff_mem.mp c.1)
          exact ⟨h1, by omega⟩
        · rw [if_neg c] at h'
          cases h'
      | succ k ih =>
        intro j s hj h
        rw [rnd_succ] at h
        rcases better_some W hj h with e | ⟨i, a, c, hi, ea, he, rfl⟩
        · exact ih j s hj e
        · obtain ⟨h1, h2⟩ := ih i a hi ea
          obtain ⟨h3, h4⟩ := I.clo i (hall i h1) j c he
          exact ⟨h3, by omega⟩
    rw [comes_rnd]
    by_cases c : j ∈ ks
    · rw [if_pos c]
      obtain ⟨s, e, hs⟩ := rnd_mono hj I.few (I.set j c)
      have := (key _ _ _ hj e).2
      rw [e]
      congr 1
      omega
    · rw [if_neg c]
      cases e : (rnd f b f.places.length).getD j none with
      | none => rfl
      | some s => exact absurd (key _ _ _ hj e).1 c

end Fb

/-! The mathematics of the answers: what has burnt, what is lost, sets of breaks, the best, guards. Plain Lean. -/
namespace Fb
open Sw96

/-! ### Rising lists -/
def Rising (l : List Nat) : Prop := l.Pairwise (· < ·)

theorem rising_ext : ∀ {a b : List Nat}, Rising a → Rising b → (∀ i, i ∈ a ↔ i ∈ b) → a = b
  | [], [], _, _, _ => rfl
  | [], y :: b, _, _, h => absurd ((h y).mpr List.mem_cons_self) List.not_mem_nil
  | x :: a, [], _, _, h => absurd ((h x).mp List.mem_cons_self) List.not_mem_nil
  | x :: a, y :: b, ha, hb, h => by
    obtain ⟨ha1, ha2⟩ := List.pairwise_cons.mp ha
    obtain ⟨hb1, hb2⟩ := List.pairwise_cons.mp hb
    have e : x = y := by
      rcases List.mem_cons.mp ((h x).mp List.mem_cons_self) with e | e
      · exact e
      · rcases List.mem_cons.mp ((h y).mpr List.mem_cons_self) with e2 | e2
        · exact e2.symm
        · have := hb1 x e
          have := ha1 y e2
          omega
    subst e
    have := rising_ext ha2 hb2 fun i => by
      constructor
      · intro hi
        rcases List.mem_cons.mp ((h i).mp (List.mem_cons_of_mem _ hi)) with e | e
        · have := ha1 i hi
          omega
        · exact e
      · intro hi
        rcases List.mem_cons.mp ((h i).mpr (List.mem_cons_of_mem _ hi)) with e | e
        · have := hb1 i hi
          omega
        · exact e
    rw [this]

theorem rising_range (n : Nat) : Rising (List.range n) := List.pairwise_lt_range
theorem rising_filter {l : List Nat} {p : Nat → Bool} (h : Rising l) : Rising (l.filter p) := List.Pairwise.filter p h

theorem rising_of {l : List Nat} (h : l.Pairwise (· ≤ ·)) (nd : l.Nodup) : Rising l := by
  unfold Rising
  have := h.and nd
  exact this.imp fun {a b} z => by
    have z1 : a ≤ b := z.1
    have z2 : a ≠ b := z.2
    omega

/-- the sorted keys -/
theorem sorted_keys {n : Nat} {L ks : List Nat} (hs : L.Pairwise (· ≤ ·)) (hp : L.Perm ks) (nd : ks.Nodup) (lt : ∀ i ∈ ks, i < n) : L = (List.range n).filter fun i => decide (i ∈ ks) := by
  refine rising_ext (rising_of hs (hp.nodup_iff.mpr nd)) (rising_filter (rising_range n)) fun i => ?_
  rw [List.mem_filter, List.mem_range, decide_eq_true_iff, hp.mem_iff]
  exact ⟨fun h => ⟨lt i h, h⟩, fun h => h.2⟩

/-- the sorted ints are keys -/
theorem ints_keys {ns : List Int} {ks : List Nat} (hp : ns.Perm (ks.map fun i : Nat => (i : Int))) : ∃ L : List Nat, ns = L.map (fun i : Nat => (i : Int)) ∧ L.Perm ks := by
  refine ⟨ns.map Int.toNat, ?_, ?_⟩
  · rw [List.map_map]
    have : ∀ x ∈ ns, ((fun i : Nat => (i : Int)) ∘ Int.toNat) x = id x := fun x hx => by
      obtain ⟨i, _, rfl⟩ := List.mem_map.mp (hp.mem_iff.mp hx)
      rfl
    rw [List.map_congr_left this, List.map_id]
  · have h := hp.map Int.toNat
    rw [List.map_map] at h
    have : (Int.toNat ∘ fun i : Nat => (i : Int)) = id := by
      funext i
      rfl
    rw [this, List.map_id] at h
    exact h

theorem ints_le {L : List Nat} (h : (L.map fun i : Nat => (i : Int)).Pairwise (· ≤ ·)) : L.Pairwise (· ≤ ·) := by
  rw [List.pairwise_map] at h
  exact h.imp fun {a b} z => by omega

theorem Told.sorted {f : Forest} {b ks L : List Nat} {T : Nat → Nat} (D : Told f b ks T) (hs : L.Pairwise (· ≤ ·)) (hp : L.Perm ks) : L = (List.range f.places.length).filter fun i => decide (i ∈ ks) :=
  sorted_keys hs hp D.nd D.lt

/-- what has burnt by a time -/
theorem Told.burnt {f : Forest} {b ks L : List Nat} {T : Nat → Nat} (D : Told f b ks T) (hs : L.Pairwise (· ≤ ·)) (hp : L.Perm ks) (t : Nat) : L.filter (fun i => decide (T i ≤ t)) = f.burnt b t := by
  rw [D.sorted hs hp, List.filter_filter]
  unfold Forest.burnt
  refine List.filter_congr fun i hi => ?_
  rw [D.at_ i (List.mem_range.mp hi)]
  by_cases c : i ∈ ks
  · simp [c]
  · simp [c]

theorem length_comes (f : Forest) (b : List Nat) : (f.comes b).length = f.places.length := length_rnd f b _

theorem comes_eq {f : Forest} {b ks : List Nat} {T : Nat → Nat} (D : Told f b ks T) : f.comes b = (List.range f.places.length).map fun j => if j ∈ ks then some (T j) else none := by
  refine List.ext_getElem? fun j => ?_
  by_cases h : j < f.places.length
  · have e := D.at_ j h
    rw [List.getElem?_map, List.getElem?_range h]
    show _ = some (if j ∈ ks then some (T j) else none)
    rw [← e, List.getD_eq_getElem?_getD, List.getElem?_eq_getElem (by rw [length_comes]; exact h)]
    rfl
  · rw [List.getElem?_eq_none (by rw [length_comes]; omega), List.getElem?_eq_none (by rw [List.length_map, List.length_range]; omega)]

/-- the list that comes answers -/
theorem Told.list {f : Forest} {b ks : List Nat} {T : Nat → Nat} (D : Told f b ks T) :
    ((f.comes b).map fun x => match x with
      | some n => n + 1
      | none => 0) = (List.range f.places.length).map fun j => if j ∈ ks then T j + 1 else 0 := by
  rw [comes_eq D, List.map_map]
  refine List.map_congr_left fun j _ => ?_
  show (match (if j ∈ ks then some (T j) else none) with
    | some n => n + 1
    | none => 0) = _
  by_cases c : j ∈ ks
  · rw [if_pos c, if_pos c]
  · rw [if_neg c, if_neg c]

theorem range_keys {n : Nat} {ks : List Nat} (nd : ks.Nodup) (lt : ∀ i ∈ ks, i < n) : ((List.range n).filter fun i => decide (i ∈ ks)).length = ks.length := by
  have h : ((List.range n).filter fun i => decide (i ∈ ks)).Perm ks := by
    refine (List.perm_ext_iff_of_nodup ?_ nd).mpr fun i => ?_
    · exact List.Pairwise.filter _ List.nodup_range
    · rw [List.mem_filter, List.mem_range, decide_eq_true_iff]
      exact ⟨fun h => h.2, fun h => ⟨lt i h, h⟩⟩
  exact h.length_eq

theorem Told.many {f : Forest} {b ks : List Nat} {T : Nat → Nat} (D : Told f b ks T) : ((f.comes b).filter fun x => x.isSome).length = ks.length := by
  rw [comes_eq D, List.filter_map, List.length_map, ← range_keys D.nd D.lt]
  congr 1
  refine List.filter_congr fun i _ => ?_
  by_cases c : i ∈ ks
  · simp [c]
  · simp [c]

/-! ### Sums -/
theorem total_acc : ∀ (l : List Nat) (a : Nat), l.foldl (fun a b => a + b) a = a + l.sum
  | [], a => by simp
  | x :: l, a => by
    rw [List.foldl_cons, total_acc l, List.sum_cons]
    omega
theorem total_sum (l : List Nat) : total l = l.sum := by
  unfold total
  rw [total_acc]
  omega
/-- a place's worth -/
def wo (f : Forest) (i : Nat) : Nat := ((f.places[i]?).map fun p => p.worth).getD 0
theorem worth_sum (f : Forest) (l : List Nat) : f.worth l = (l.map (wo f)).sum := total_sum _
theorem lost_sum (f : Forest) (b : List Nat) (t : Nat) : f.lost b t = ((f.burnt b t ++ b).map (wo f)).sum := by
  unfold Forest.lost
  rw [worth_sum, worth_sum, List.map_append, List.sum_append]
theorem sum_ints : ∀ (l : List Nat), (l.map fun i : Nat => (i : Int)).sum = ((l.sum : Nat) : Int)
  | [] => rfl
  | x :: l => by
    rw [List.map_cons, List.sum_cons, List.sum_cons, sum_ints l]
    omega

/-! ### Sets of breaks -/
/-- the rows that a row is made longer to -/
def ext (l row : List Nat) : List (List Nat) := (l.filter fun p => decide (row = [] ∨ row.getLast?.getD 0 < p)).map fun p => row ++ [p]

theorem choose_mem : ∀ {k : Nat} {l row : List Nat}, row ∈ choose k l → row.length = k ∧ ∀ i ∈ row, i ∈ l
  | 0, l, row, h => by
    have e : row = [] := by
      have : row ∈ [([] : List Nat)] := by
        cases l <;> exact h
      exact List.mem_singleton.mp this
    subst e
    exact ⟨rfl, fun i hi => by cases hi⟩
  | k + 1, [], row, h => by cases h
  | k + 1, x :: l, row, h => by
    have h' : row ∈ ((choose k l).map fun r => x :: r) ++ choose (k + 1) l := h
    rcases List.mem_append.mp h' with h | h
    · obtain ⟨r, hr, rfl⟩ := List.mem_map.mp h
      obtain ⟨e, hm⟩ := choose_mem hr
      refine ⟨by rw [List.length_cons, e], fun i hi => ?_⟩
      rcases List.mem_cons.mp hi with e | e
      · rw [e]
        exact List.mem_cons_self
      · exact List.mem_cons_of_mem _ (hm i e)
    · obtain ⟨e, hm⟩ := choose_mem h
      exact ⟨e, fun i hi => List.mem_cons_of_mem _ (hm i hi)⟩

theorem choose_zero (l : List Nat) : choose 0 l = [[]] := by
  cases l <;> rfl

theorem ext_nil (l : List Nat) : ext l [] = l.map fun p => [p] := by
  unfold ext
  rw [List.filter_eq_self.mpr fun a _ => by simp]
  rfl

theorem choose_one : ∀ l : List Nat, choose 1 l = l.map fun p => [p]
  | [] => rfl
  | x :: l => by
    show ((choose 0 l).map fun r => x :: r) ++ choose 1 l = _
    rw [choose_zero, choose_one l]
    rfl

theorem last_mem {row : List Nat} (h : row ≠ []) : row.getLast?.getD 0 ∈ row := by
  rw [List.getLast?_eq_some_getLast h]
  exact List.getLast_mem h

theorem flatMap_congr' {α β : Type} {l : List α} {g h : α → List β} (e : ∀ x ∈ l, g x = h x) : l.flatMap g = l.flatMap h := by
  induction l with
  | nil => rfl
  | cons a l ih =>
    rw [List.flatMap_cons, List.flatMap_cons, e a List.mem_cons_self, ih fun x hx => e x (List.mem_cons_of_mem _ hx)]

theorem choose_succ : ∀ (k : Nat) (l : List Nat), Rising l → choose (k + 1) l = (choose k l).flatMap (ext l)
  | 0, l, _ => by
    rw [choose_zero, choose_one]
    simp [ext_nil]
  | k + 1, [], _ => rfl
  | k + 1, x :: l, h => by
    obtain ⟨h1, h2⟩ := List.pairwise_cons.mp h
    have i1 := choose_succ k l h2
    have i2 := choose_succ (k + 1) l h2
    show ((choose (k + 1) l).map fun r => x :: r) ++ choose (k + 2) l = (((choose k l).map fun r => x :: r) ++ choose (k + 1) l).flatMap (ext (x :: l))
    rw [List.flatMap_append, i2]
    congr 1
    · rw [i1, List.map_flatMap, List.flatMap_map]
      refine flatMap_congr' fun row hr => ?_
      have hm := (choose_mem hr).2
      unfold ext
      rw [List.map_map, List.filter_cons]
      by_cases c : row = []
      · subst c
        have e0 : decide ([x] = [] ∨ ([x] : List Nat).getLast?.getD 0 < x) = false := by
          simp
        rw [if_neg (by rw [e0]; exact Bool.false_ne_true)]
        have e1 : (l.filter fun p => decide ([x] = [] ∨ ([x] : List Nat).getLast?.getD 0 < p)) = l := List.filter_eq_self.mpr fun a ha => by
          have := h1 a ha
          simp [this]
        have e2 : (l.filter fun p => decide (([] : List Nat) = [] ∨ ([] : List Nat).getLast?.getD 0 < p)) = l := List.filter_eq_self.mpr fun a ha => by
          simp
        rw [e1, e2]
        rfl
      · have el : (x :: row).getLast?.getD 0 = row.getLast?.getD 0 := by
          rw [List.getLast?_eq_some_getLast c, List.getLast?_eq_some_getLast (List.cons_ne_nil x row), List.getLast_cons c]
        have hx : x < row.getLast?.getD 0 := h1 _ (hm _ (last_mem c))
        have e0 : decide (x :: row = [] ∨ (x :: row).getLast?.getD 0 < x) = false := by
          rw [el]
          simp
          omega
        rw [if_neg (by rw [e0]; exact Bool.false_ne_true)]
        have e1 : (fun p => decide (row = [] ∨ row.getLast?.getD 0 < p)) = fun p => decide (x :: row = [] ∨ (x :: row).getLast?.getD 0 < p) := by
          funext p
          rw [el]
          simp [c]
        rw [e1]
        rfl
    · refine flatMap_congr' fun row hr => ?_
      obtain ⟨hlen, hm⟩ := choose_mem hr
      have c : row ≠ [] := fun e => by
        rw [e] at hlen
        cases hlen
      have hx : x < row.getLast?.getD 0 := h1 _ (hm _ (last_mem c))
      unfold ext
      rw [List.filter_cons, if_neg]
      simp [c]
      omega

theorem choose_rising : ∀ {k : Nat} {l row : List Nat}, Rising l → row ∈ choose k l → Rising row
  | 0, l, row, _, h => by
    rw [choose_zero] at h
    rw [List.mem_singleton.mp h]
    exact List.Pairwise.nil
  | k + 1, [], row, _, h => by cases h
  | k + 1, x :: l, row, hl, h => by
    obtain ⟨h1, h2⟩ := List.pairwise_cons.mp hl
    have h' : row ∈ ((choose k l).map fun r => x :: r) ++ choose (k + 1) l := h
    rcases List.mem_append.mp h' with h | h
    · obtain ⟨r, hr, rfl⟩ := List.mem_map.mp h
      exact List.pairwise_cons.mpr ⟨fun a ha => h1 a ((choose_mem hr).2 a ha), choose_rising h2 hr⟩
    · exact choose_rising h2 h

theorem choose_len : ∀ (k : Nat) (l : List Nat), (choose k l).length ≤ (l.length + 1) ^ k
  | 0, l => by rw [choose_zero]; simp
  | k + 1, [] => by simp [choose]
  | k + 1, x :: l => by
    show (((choose k l).map fun r => x :: r) ++ choose (k + 1) l).length ≤ _
    rw [List.length_append, List.length_map]
    have h1 := choose_len k l
    have h2 := choose_len (k + 1) l
    rw [List.length_cons]
    have h3 : (l.length + 1) ^ k ≤ (l.length + 1 + 1) ^ k := Nat.pow_le_pow_left (by omega) k
    rw [Nat.pow_succ] at h2 ⊢
    have h4 : (l.length + 1) ^ k * (l.length + 1) ≤ (l.length + 1 + 1) ^ k * (l.length + 1) := Nat.mul_le_mul_right _ h3
    rw [Nat.mul_succ]
    omega

theorem free_rising (f : Forest) : Rising f.free := rising_filter (rising_range _)
theorem free_mem {f : Forest} {i : Nat} : i ∈ f.free ↔ i < f.places.length ∧ i ∉ f.fires := by
  unfold Forest.free
  rw [List.mem_filter, List.mem_range, Bool.not_eq_true', ← Bool.not_eq_true, List.contains_iff_mem]
theorem free_len (f : Forest) : f.free.length ≤ f.places.length := by
  have := List.length_filter_le (fun i => !f.fires.contains i) (List.range f.places.length)
  rw [List.length_range] at this
  exact this

/-- what a break list must be for the times -/
def Apart (f : Forest) (b : List Nat) : Prop := ∀ i ∈ f.fires, i ∉ b

theorem choose_apart {f : Forest} {k : Nat} {row : List Nat} (h : row ∈ choose k f.free) : Apart f row := fun i hi hm =>
  (free_mem.mp ((choose_mem h).2 i hm)).2 hi

/-! ### The best -/
/-- the specification's turn -/
def bturn (f : Forest) (t : Nat) (m : Option Best) (b : List Nat) : Option Best :=
  match m with
  | none => some ⟨f.lost b t, 1, b⟩
  | some y => if f.lost b t < y.lost then some ⟨f.lost b t, 1, b⟩ else if f.lost b t = y.lost then some { y with many := y.many + 1 } else some y

theorem best_eq (f : Forest) (k t : Nat) : f.best k t = ((f.sets k).foldl (bturn f t) none).getD ⟨0, 1, []⟩ := rfl

/-- how the program holds what the specification has: the least, the sets that lose as little -/
def Holds (m : Option Best) (least : Int) (found : List (List Nat)) : Prop :=
  match m with
  | none => found = []
  | some y => least = (y.lost : Int) ∧ found.length = y.many ∧ found.head? = some y.breaks

theorem holds_new {f : Forest} {t : Nat} {m : Option Best} {least : Int} {found : List (List Nat)} {b : List Nat} (h : Holds m least found) (c : found = [] ∨ (f.lost b t : Int) < least) : Holds (bturn f t m b) (f.lost b t : Int) [b] := by
  cases m with
  | none => exact ⟨rfl, rfl, rfl⟩
  | some y =>
    obtain ⟨h1, h2, h3⟩ := h
    have c' : f.lost b t < y.lost := by
      rcases c with c | c
      · rw [c] at h3
        cases h3
      · rw [h1] at c
        omega
    show Holds (if f.lost b t < y.lost then some ⟨f.lost b t, 1, b⟩ else _) _ _
    rw [if_pos c']
    exact ⟨rfl, rfl, rfl⟩

theorem holds_more {f : Forest} {t : Nat} {m : Option Best} {least : Int} {found : List (List Nat)} {b : List Nat} (h : Holds m least found) (c : ¬ found = []) (e : (f.lost b t : Int) = least) : Holds (bturn f t m b) least (found ++ [b]) := by
  cases m with
  | none => exact absurd h c
  | some y =>
    obtain ⟨h1, h2, h3⟩ := h
    have e' : f.lost b t = y.lost := by
      rw [h1] at e
      omega
    show Holds (if f.lost b t < y.lost then _ else if f.lost b t = y.lost then some { y with many := y.many + 1 } else some y) _ _
    rw [if_neg (by omega), if_pos e']
    refine ⟨h1, ?_, ?_⟩
    · rw [List.length_append, h2]
      rfl
    · cases found with
      | nil => exact absurd rfl c
      | cons a r => exact h3

theorem holds_same {f : Forest} {t : Nat} {m : Option Best} {least : Int} {found : List (List Nat)} {b : List Nat} (h : Holds m least found) (c : ¬ found = []) (c1 : ¬ (f.lost b t : Int) < least) (c2 : ¬ (f.lost b t : Int) = least) : Holds (bturn f t m b) least found := by
  cases m with
  | none => exact absurd h c
  | some y =>
    obtain ⟨h1, h2, h3⟩ := h
    rw [h1] at c1 c2
    show Holds (if f.lost b t < y.lost then _ else if f.lost b t = y.lost then _ else some y) _ _
    rw [if_neg (by omega), if_neg (by omega)]
    exact ⟨h1, h2, h3⟩

theorem bturn_some (f : Forest) (t : Nat) (m : Option Best) (b : List Nat) : ∃ y, bturn f t m b = some y := by
  unfold bturn
  split
  · exact ⟨_, rfl⟩
  · split
    · exact ⟨_, rfl⟩
    · split <;> exact ⟨_, rfl⟩

theorem fold_bturn (f : Forest) (t : Nat) : ∀ (l : List (List Nat)) (m : Option Best), (l ≠ [] ∨ ∃ y, m = some y) → ∃ y, l.foldl (bturn f t) m = some y
  | [], m, h => by
    rcases h with h | h
    · exact absurd rfl h
    · exact h
  | b :: l, m, _ => fold_bturn f t l _ (.inr (bturn_some f t m b))

theorem sets_ne (f : Forest) (k : Nat) : f.sets k ≠ [] := by
  have : [] ∈ f.sets k := by
    unfold Forest.sets
    rw [List.mem_flatMap]
    exact ⟨0, List.mem_range.mpr (by omega), by rw [choose_zero]; exact List.mem_singleton.mpr rfl⟩
  intro e
  rw [e] at this
  cases this

theorem sets_succ (f : Forest) (k : Nat) : (List.range (k + 1)).flatMap (fun n => choose n f.free) = (List.range k).flatMap (fun n => choose n f.free) ++ choose k f.free := by
  rw [List.range_succ, List.flatMap_append]
  simp

/-- at the end -/
theorem holds_best {f : Forest} {k t : Nat} {least : Int} {found : List (List Nat)} (h : Holds ((f.sets k).foldl (bturn f t) none) least found) : least = ((f.best k t).lost : Int) ∧ found.length = (f.best k t).many ∧ found.head? = some (f.best k t).breaks := by
  rw [best_eq]
  obtain ⟨y, hy⟩ := fold_bturn f t (f.sets k) none (.inl (sets_ne f k))
  rw [hy] at h ⊢
  exact h

/-! ### Guards -/
theorem guards_eq (f : Forest) (i : Nat) : f.guards i = (List.range f.places.length).filter fun b => (b != i && !f.fires.contains b) && ((f.comes [b]).getD i none).isNone := by
  unfold Forest.guards Forest.free
  rw [List.filter_filter]
  refine List.filter_congr fun b _ => ?_
  cases f.fires.contains b <;> cases b != i <;> cases ((f.comes [b]).getD i none).isNone <;> rfl

theorem Told.none_iff {f : Forest} {b ks : List Nat} {T : Nat → Nat} (D : Told f b ks T) {i : Nat} (hi : i < f.places.length) : ((f.comes b).getD i none).isNone = decide (i ∉ ks) := by
  rw [D.at_ i hi]
  by_cases c : i ∈ ks
  · simp [c]
  · simp [c]

/-! ### Breaks that are as they must be -/
theorem rising_iff : ∀ {l : List Nat}, rising l = true ↔ ∀ k, k + 1 < l.length → l.getD k 0 < l.getD (k + 1) 0
  | [] => by simp [rising]
  | [a] => by simp [rising]
  | a :: b :: l => by
    show (decide (a < b) && rising (b :: l)) = true ↔ _
    rw [Bool.and_eq_true, decide_eq_true_iff, rising_iff]
    constructor
    · rintro ⟨h1, h2⟩ k hk
      cases k with
      | zero => exact h1
      | succ k => exact h2 k (by simp only [List.length_cons] at hk ⊢; omega)
    · intro h
      refine ⟨h 0 (by simp), fun k hk => h (k + 1) (by simp only [List.length_cons] at hk ⊢; omega)⟩

theorem breaksOk_iff {f : Forest} {b : List Nat} : f.breaksOk b = true ↔ (∀ k, k + 1 < b.length → b.getD k 0 < b.getD (k + 1) 0) ∧ ∀ i ∈ b, i < f.places.length ∧ i ∉ f.fires := by
  unfold Forest.breaksOk
  rw [Bool.and_eq_true, rising_iff, List.all_eq_true]
  constructor
  · rintro ⟨h1, h2⟩
    refine ⟨h1, fun i hi => ?_⟩
    have := h2 i hi
    rw [Bool.and_eq_true, decide_eq_true_iff, Bool.not_eq_true', ← Bool.not_eq_true, List.contains_iff_mem] at this
    exact this
  · rintro ⟨h1, h2⟩
    refine ⟨h1, fun i hi => ?_⟩
    rw [Bool.and_eq_true, decide_eq_true_iff, Bool.not_eq_true', ← Bool.not_eq_true, List.contains_iff_mem]
    exact h2 i hi

theorem breaksOk_apart {f : Forest} {b : List Nat} (h : f.breaksOk b = true) : Apart f b := fun i hi hb => ((breaksOk_iff.mp h).2 i hb).2 hi

end Fb

/-! Rules of my own for the walk: xs == [] whatever stands in xs; xs[::2], xs[1::2]. Then the heap's words. -/
namespace Fw
open PySem PySem.Spec PyProof.Rows L2
section
variable {X : Cx}
/-! ### xs == [] -/
def rEqNil (K : PySem.W.Frag) : R2 := fun x y H Q => ∃ a b xs, x = .ref a ∧ y = .ref b ∧ SqL K H a xs ∧ SqL K H b [] ∧ Q (.bl xs.isEmpty) H
theorem op_eqNil (hu : X.A.units + 1 < cLine) : OpR X (compareOp .Eq) (rEqNil X.K) := by
  intro pins s σ H x y v u Q I rx ry h
  obtain ⟨a, b, xs, rfl, rfl, hx, hy, q⟩ := h
  cases rx
  cases ry
  obtain ⟨its, r, ht, hz⟩ := I.list hx
  obtain ⟨its2, r2, ht2, hz2⟩ := I.list hy
  have e2 : its2 = [] := by
    cases r2
    rfl
  subst e2
  cases xs with
  | nil =>
    cases r
    exact SeqAt.eq_listAt (e := fun _ => true) ht.isList ht2.isList rfl (by omega) (fun j h1 _ => absurd h1 (Nat.not_lt_zero _)) ⟨.bl true, H, I, rfl, q⟩
  | cons z zs =>
    cases r with
    | cons r1 r2 => exact SeqAt.eq_list_lengthsAt ht.isList ht2.isList (by simp) (by omega) ⟨.bl false, H, I, rfl, q⟩
def rNeNil (K : PySem.W.Frag) : R2 := fun x y H Q => ∃ a b xs, x = .ref a ∧ y = .ref b ∧ SqL K H a xs ∧ SqL K H b [] ∧ Q (.bl (!xs.isEmpty)) H
theorem op_neNil (hu : X.A.units + 1 < cLine) : OpR X (compareOp .NotEq) (rNeNil X.K) := by
  intro pins s σ H x y v u Q I rx ry h
  obtain ⟨a, b, xs, rfl, rfl, hx, hy, q⟩ := h
  cases rx
  cases ry
  obtain ⟨its, r, ht, hz⟩ := I.list hx
  obtain ⟨its2, r2, ht2, hz2⟩ := I.list hy
  have e2 : its2 = [] := by
    cases r2
    rfl
  subst e2
  cases xs with
  | nil =>
    cases r
    exact SeqAt.RcNeAt.lists (e := fun _ => true) ht.isList ht2.isList rfl (by omega) (fun j h1 _ => absurd h1 (Nat.not_lt_zero _)) _ _ _ _ ⟨.bl false, H, I, rfl, q⟩
  | cons z zs =>
    cases r with
    | cons r1 r2 => exact SeqAt.RcNeAt.lists_lengths ht.isList ht2.isList (by simp) (by omega) _ _ _ _ ⟨.bl true, H, I, rfl, q⟩
/-! ### every second -/
def pick2 {α : Type} (xs : List α) (lo : Option Int) : List α :=
  (sliceRange (sliceBounds lo none (some 2) xs.length).1 (sliceBounds lo none (some 2) xs.length).2.1 (sliceBounds lo none (some 2) xs.length).2.2).filterMap (xs[·]?)
theorem vals_pick {xs : List V} {us : List Value} (r : Vals xs us) : ∀ ix : List Nat, Vals (ix.filterMap (xs[·]?)) (ix.filterMap (us[·]?))
  | [] => .nil
  | i :: ix => by
    have ih := vals_pick r ix
    cases e : xs[i]? with
    | none =>
      have e' : us[i]? = none := r.none_of e
      rw [List.filterMap_cons_none e, List.filterMap_cons_none e']
      exact ih
    | some x =>
      obtain ⟨u, e', ru⟩ := r.get e
      rw [List.filterMap_cons_some e, List.filterMap_cons_some e']
      exact .cons ru ih
def tStep2 (K : PySem.W.Frag) (te : TE) (tl : TO) : TE := fun σ H Q => te σ H fun x H1 => tl σ H1 fun lo H2 => ∃ a xs, x = .ref a ∧ SqL K H2 a xs ∧ (pick2 xs lo).length ≤ sizeLine ∧ ∀ p, H2 p = none → Q (.ref p) (upd H2 p (.lst (pick2 xs lo)))
theorem pe_step2 {e : Expr} {te : TE} {lo : Option Expr} {tl : TO} {k : Nat} {p1 p3 pos : Pos} (he : PE X e te) (hl : PO X lo tl) : PE X (.Subscript e (.Slice lo none (some (.Constant (.int 2) k p1)) p3) pos) (tStep2 X.K te tl) := by
  refine ⟨fun pins s σ H Q I h => ?_⟩
  refine Subscript_ (thn (he.run pins s σ H _ I h) fun v s1 ⟨x, H1, I1, r1, q1⟩ => ?_)
  have hst : PO X (some (.Constant (.int 2) k p1)) (tPart (tC (.int 2))) := po_some pe_int
  refine wpAny_Slice (thn (hl.run pins s1 σ H1 _ I1 q1) fun vl s2 ⟨l, H2, I2, pl, q2⟩ => ?_)
  refine thn (po_none.run pins s2 σ H2 (fun o H3 => o = none ∧ H3 = H2) I2 ⟨rfl, rfl⟩) fun vu s3 ⟨u, H3, I3, pu, eu, e3⟩ => ?_
  subst eu e3
  refine thn (hst.run pins s3 σ H3 (fun o H4 => o = some 2 ∧ H4 = H3) I3 ⟨2, rfl, rfl, rfl⟩) fun vs s4 ⟨o, H4, I4, ps, eo, e4⟩ => ?_
  subst eo e4
  obtain ⟨a, xs, ex, hx, hz2, q⟩ := q2
  subst ex
  cases r1
  have I5 : Inv X pins σ H4 { s4 with heap := s4.heap.push { cls := .type "slice", data := .fields #[vl, vu, vs] } } := I4.kept (t' := s4.toks) fun b ob q => Heap.get?_push_of_some _ q
  obtain ⟨its, r, ht, hz⟩ := I5.list hx
  have hlen := r.length
  show wpAny (model X.prog X.w) X.A (subscriptTail e (.Slice lo none (some (.Constant (.int 2) k p1)) p3) (.ref a) (.ref s4.heap.objs.size)) (EP X pins σ Q) X.xe { s4 with heap := s4.heap.push { cls := .type "slice", data := .fields #[vl, vu, vs] } }
  refine tail_any (ops := [.ref a, .ref s4.heap.objs.size]) ht.isList.typeIs (PySem.slot_list_getitem.lookup) ?_ (by with_unfolding_all rfl)
  refine wpAny_getItem_list_slice ht.isList (Heap.IsSliceOf.new _ vl vu vs) pl pu ps (by decide) ?_ (by rw [List.size_toArray]; omega)
  have hp : (slicePick its.toArray l none (some 2)) = (pick2 its l).toArray := by
    unfold slicePick pick2
    rw [List.size_toArray]
    simp only [List.getElem?_toArray]
  rw [hp]
  refine ⟨.ref _, _, I5.laid (t' := s4.toks) (o := .lst (pick2 xs l)) (fun b ob q => Heap.get?_push_of_some _ q) (Nat.le_refl _) ?_, rfl, q _ (I5.hok.fresh (Nat.le_refl _))⟩
  have hv : Vals (pick2 xs l) (pick2 its l) := by
    unfold pick2
    rw [← hlen]
    exact vals_pick r _
  exact ⟨hz2, _, 0, hv, Heap.get?_push_size _ rfl⟩
end
end Fw

/-! The text by places, the heap's words, what the top has written, calls by promise. -/
namespace Fw
open PySem PySem.Spec PyProof.Rows L2
/-! ### 1. The text -/
def top (i : Nat) : Stmt := PySem.Challenge.pw_firebreaks_s01_answers.main.body.getD i (.Pass ⟨0, 0, 0, 0⟩)
abbrev sNear : Stmt := top 1
abbrev sTimes : Stmt := top 2
abbrev sBurntBy : Stmt := top 3
abbrev sLost : Stmt := top 4
abbrev sSets : Stmt := top 5
abbrev sBestOf : Stmt := top 6
abbrev sGuardsOf : Stmt := top 7
abbrev sFInit : Stmt := inClass (top 15) 0
abbrev sSize : Stmt := inClass (top 15) 1
abbrev sHas : Stmt := inClass (top 15) 2
abbrev sBurns : Stmt := inClass (top 15) 3
abbrev sNbrs : Stmt := inClass (top 15) 4
abbrev sWays : Stmt := inClass (top 15) 5
abbrev sWithin : Stmt := top 16
abbrev sForestOf : Stmt := top 17
abbrev sIsWind : Stmt := top 18
abbrev sAreBreaks : Stmt := top 19
abbrev sTold : Stmt := top 23
abbrev sDInit : Stmt := inClass (top 24) 0
abbrev sBegin : Stmt := inClass (top 24) 1
abbrev sSetWind : Stmt := inClass (top 24) 2
abbrev sSetFire : Stmt := inClass (top 24) 3
abbrev sPutOut : Stmt := inClass (top 24) 4
abbrev sComes : Stmt := inClass (top 24) 5
abbrev sBurnt : Stmt := inClass (top 24) 6
abbrev sBest : Stmt := inClass (top 24) 7
abbrev sGuards : Stmt := inClass (top 24) 8
abbrev sWithRow : Stmt := top 28
abbrev sPlain : Stmt := top 29
abbrev sAns : Stmt := top 30

/-! ### 2. The heap's words -/
def nums (l : List Nat) : List V := l.map fun i : Nat => V.int (i : Int)
theorem nums_len (l : List Nat) : (nums l).length = l.length := List.length_map ..
theorem nums_append (l r : List Nat) : nums (l ++ r) = nums l ++ nums r := List.map_append ..
theorem nums_get {l : List Nat} {i : Nat} {x : V} (h : (nums l)[i]? = some x) : ∃ z, l[i]? = some z ∧ x = V.int (z : Int) := by
  unfold nums at h
  rw [List.getElem?_map] at h
  cases e : l[i]? with
  | none =>
    rw [e] at h
    cases h
  | some z =>
    rw [e] at h
    exact ⟨z, rfl, (Option.some.inj h).symm⟩
theorem nums_at {l : List Nat} {i z : Nat} (h : l[i]? = some z) : (nums l)[i]? = some (V.int (z : Int)) := by
  unfold nums
  rw [List.getElem?_map, h]
  rfl
theorem nums_flat (l : List Nat) : (nums l).all flatV = true := by
  rw [List.all_eq_true]
  intro x hx
  obtain ⟨i, _, rfl⟩ := List.mem_map.mp hx
  rfl
theorem nums_in (i : Nat) (l : List Nat) : inV (V.int (i : Int)) (nums l) = l.contains i := by
  unfold inV nums
  rw [List.any_map]
  induction l with
  | nil => rfl
  | cons a l ih =>
    rw [List.any_cons, ih, List.contains_cons]
    congr 1
    show ((a : Int) == (i : Int)) = (i == a)
    rw [Bool.eq_iff_iff, beq_iff_eq, beq_iff_eq]
    omega
theorem nums_ints (l : List Nat) : (l.map fun i : Nat => (i : Int)).map V.int = nums l := by
  unfold nums
  rw [List.map_map]
  rfl
theorem take_more {α : Type} : ∀ {l : List α} {i : Nat} {x : α}, l[i]? = some x → l.take (i + 1) = l.take i ++ [x]
  | [], i, x, h => by simp at h
  | a :: l, 0, x, h => by
    have e : a = x := Option.some.inj h
    subst e
    rfl
  | a :: l, i + 1, x, h => by
    have ih := take_more (l := l) (i := i) (x := x) h
    show a :: l.take (i + 1) = a :: l.take i ++ [x]
    rw [ih]
    rfl
theorem big (n : Nat) (h : n ≤ 1000000) : n < sizeLine := Nat.lt_of_le_of_lt h (by decide)
theorem if_true_of {c : Bool} {A B : Prop} (hc : c = true) (h : A) : if c = true then A else B := by
  rw [if_pos hc]
  exact h
theorem if_false_of {c : Bool} {A B : Prop} (hc : c = false) (h : B) : if c = true then A else B := by
  rw [hc, if_neg Bool.false_ne_true]
  exact h
theorem same_upd {H H1 : Hp} {p : Addr} {o : HO} (s : Same H H1) (hp : H p = none) : Same H (upd H1 p o) := fun b u e => by
  rw [upd_ne (ne_of_none e hp)]
  exact s b u e
theorem same_tup {K : PySem.W.Frag} {H H' : Hp} {a : Addr} {xs : List V} (e : Same H H') (h : SqT K H a xs) : SqT K H' a xs := by
  rcases h with (h | ⟨o, h⟩) | h
  · exact .inl (.inl (e _ _ h))
  · exact .inl (.inr ⟨o, e _ _ h⟩)
  · exact .inr h
/-- a tuple of the written part -/
def WT (K : PySem.W.Frag) (a : Addr) (xs : List V) : Prop := ∃ (o : Obj) (its : Array Value) (n : Nat), K.lookup a = some o ∧ o.cls = .type "tuple" ∧ o.data = .seq its n ∧ its.size ≤ sizeLine ∧ Vals xs its.toList
theorem WT.sq {K : PySem.W.Frag} {a : Addr} {xs : List V} (h : WT K a xs) (H : Hp) : SqT K H a xs := .inr h

/-! dicts of places -/
def dct (ks : List Nat) (v : Nat → V) : List (Key × V) := ks.map fun i : Nat => ((Sum.inl (i : Int) : Key), v i)
theorem dct_len (ks : List Nat) (v : Nat → V) : (dct ks v).length = ks.length := List.length_map ..
theorem dct_keys (ks : List Nat) (v : Nat → V) : (dct ks v).map (·.1) = (ks.map fun i : Nat => (i : Int)).map Sum.inl := by
  unfold dct
  rw [List.map_map, List.map_map]
  rfl
theorem key_ne {i j : Nat} (h : i ≠ j) : ¬ ((Sum.inl (i : Int) : Key) = Sum.inl (j : Int)) := fun e => h (by have := Sum.inl.inj e; omega)
theorem dct_val (v : Nat → V) (i : Nat) : ∀ ks : List Nat, valV (dct ks v) (Sum.inl (i : Int)) = if i ∈ ks then some (v i) else none
  | [] => rfl
  | k :: ks => by
    have ih := dct_val v i ks
    by_cases e : k = i
    · subst e
      rw [if_pos List.mem_cons_self]
      exact valV_pos (p := ((Sum.inl (k : Int) : Key), v k)) rfl
    · have h1 : valV (dct (k :: ks) v) (Sum.inl (i : Int)) = valV (dct ks v) (Sum.inl (i : Int)) := valV_neg (p := ((Sum.inl (k : Int) : Key), v k)) (key_ne e)
      rw [h1, ih]
      by_cases c : i ∈ ks
      · rw [if_pos c, if_pos (List.mem_cons_of_mem _ c)]
      · rw [if_neg c, if_neg]
        intro z
        rcases List.mem_cons.mp z with z | z
        · exact e z.symm
        · exact c z
theorem dct_in {ks : List Nat} {v : Nat → V} {i : Nat} (h : i ∈ ks) : valV (dct ks v) (Sum.inl (i : Int)) = some (v i) := by rw [dct_val, if_pos h]
theorem dct_out {ks : List Nat} {v : Nat → V} {i : Nat} (h : i ∉ ks) : valV (dct ks v) (Sum.inl (i : Int)) = none := by rw [dct_val, if_neg h]
theorem dct_put (ks : List Nat) (v : Nat → V) (i : Nat) (x : V) : putK (dct ks v) (Sum.inl (i : Int)) x = dct (Fb.addK ks i) (fun j => if j = i then x else v j) := by
  unfold putK Fb.addK
  rw [valV_any, dct_val]
  by_cases c : i ∈ ks
  · rw [if_pos c, if_pos c]
    show (dct ks v).map _ = _
    unfold dct
    rw [List.map_map]
    refine List.map_congr_left fun j _ => ?_
    show (if (Sum.inl (j : Int) : Key) = Sum.inl (i : Int) then ((Sum.inl (j : Int) : Key), x) else ((Sum.inl (j : Int) : Key), v j)) = ((Sum.inl (j : Int) : Key), if j = i then x else v j)
    by_cases e : j = i
    · subst e
      rw [if_pos rfl, if_pos rfl]
    · rw [if_neg (key_ne e), if_neg e]
  · rw [if_neg c, if_neg c]
    show dct ks v ++ [(Sum.inl (i : Int), x)] = _
    unfold dct
    rw [List.map_append]
    congr 1
    · refine List.map_congr_left fun j hj => ?_
      show ((Sum.inl (j : Int) : Key), v j) = ((Sum.inl (j : Int) : Key), if j = i then x else v j)
      rw [if_neg fun e : j = i => c (e ▸ hj)]
    · show [((Sum.inl (i : Int) : Key), x)] = [((Sum.inl (i : Int) : Key), if i = i then x else v i)]
      rw [if_pos rfl]
/-- the values of times -/
def tv (T : Nat → Nat) : Nat → V := fun i => V.int ((T i : Nat) : Int)
/-- the values of done -/
def dv : Nat → V := fun _ => V.bl true
theorem tv_set (T : Nat → Nat) (o x : Nat) : (fun j => if j = o then V.int (x : Int) else tv T j) = tv (Fb.set T o x) := by
  funext j
  unfold tv Fb.set
  by_cases e : j = o
  · rw [if_pos e, if_pos e]
  · rw [if_neg e, if_neg e]
theorem dv_set (o : Nat) : (fun j => if j = o then V.bl true else dv j) = dv := by
  funext j
  unfold dv
  by_cases e : j = o
  · rw [if_pos e]
  · rw [if_neg e]

/-! a forest -/
def fF (w : Nat) (s wo wi fi : Addr) : List (Str × V) := [("wide", .int (w : Int)), ("slownesses", .ref s), ("worths", .ref wo), ("wind", .ref wi), ("fires", .ref fi)]
theorem lk_here {k : Str} {v : V} {r : List (Str × V)} : List.lookup k ((k, v) :: r) = some v := by
  have e : (k == k) = true := beq_self_eq_true k
  simp only [List.lookup, e]
theorem lk_past {k g : Str} {v : V} {r : List (Str × V)} (h : (k == g) = false) : List.lookup k ((g, v) :: r) = List.lookup k r := by
  simp only [List.lookup, h]
theorem put_here {f : Str} {v x : V} {r : List (Str × V)} : putF f v ((f, x) :: r) = (f, v) :: r := if_pos rfl
theorem put_past {f g : Str} {v x : V} {r : List (Str × V)} (h : ¬ g = f) : putF f v ((g, x) :: r) = (g, x) :: putF f v r := if_neg h
section
variable {w : Nat} {s wo wi fi : Addr}
theorem fF_wide : (fF w s wo wi fi).lookup ("wide" : Str) = some (.int (w : Int)) := lk_here
theorem fF_slow : (fF w s wo wi fi).lookup ("slownesses" : Str) = some (.ref s) := (lk_past (by decide +kernel)).trans lk_here
theorem fF_worths : (fF w s wo wi fi).lookup ("worths" : Str) = some (.ref wo) := (lk_past (by decide +kernel)).trans ((lk_past (by decide +kernel)).trans lk_here)
theorem fF_wind : (fF w s wo wi fi).lookup ("wind" : Str) = some (.ref wi) := (lk_past (by decide +kernel)).trans ((lk_past (by decide +kernel)).trans ((lk_past (by decide +kernel)).trans lk_here))
theorem fF_fires : (fF w s wo wi fi).lookup ("fires" : Str) = some (.ref fi) := (lk_past (by decide +kernel)).trans ((lk_past (by decide +kernel)).trans ((lk_past (by decide +kernel)).trans ((lk_past (by decide +kernel)).trans lk_here)))
theorem fF_no {m : Str} (h1 : (m == ("wide" : Str)) = false) (h2 : (m == ("slownesses" : Str)) = false) (h3 : (m == ("worths" : Str)) = false) (h4 : (m == ("wind" : Str)) = false) (h5 : (m == ("fires" : Str)) = false) : (fF w s wo wi fi).lookup m = none :=
  (lk_past h1).trans ((lk_past h2).trans ((lk_past h3).trans ((lk_past h4).trans ((lk_past h5).trans rfl))))
theorem fF_size : (fF w s wo wi fi).lookup ("size" : Str) = none := fF_no (by decide +kernel) (by decide +kernel) (by decide +kernel) (by decide +kernel) (by decide +kernel)
theorem fF_has : (fF w s wo wi fi).lookup ("has_place" : Str) = none := fF_no (by decide +kernel) (by decide +kernel) (by decide +kernel) (by decide +kernel) (by decide +kernel)
theorem fF_burns : (fF w s wo wi fi).lookup ("burns" : Str) = none := fF_no (by decide +kernel) (by decide +kernel) (by decide +kernel) (by decide +kernel) (by decide +kernel)
theorem fF_nbrs : (fF w s wo wi fi).lookup ("neighbours" : Str) = none := fF_no (by decide +kernel) (by decide +kernel) (by decide +kernel) (by decide +kernel) (by decide +kernel)
theorem fF_ways : (fF w s wo wi fi).lookup ("ways_from" : Str) = none := fF_no (by decide +kernel) (by decide +kernel) (by decide +kernel) (by decide +kernel) (by decide +kernel)
theorem fF_putWind (x : Addr) : putF "wind" (.ref x) (fF w s wo wi fi) = fF w s wo x fi :=
  (put_past (by decide +kernel)).trans (congrArg _ ((put_past (by decide +kernel)).trans (congrArg _ ((put_past (by decide +kernel)).trans (congrArg _ put_here)))))
theorem fF_putFires (x : Addr) : putF "fires" (.ref x) (fF w s wo wi fi) = fF w s wo wi x :=
  (put_past (by decide +kernel)).trans (congrArg _ ((put_past (by decide +kernel)).trans (congrArg _ ((put_past (by decide +kernel)).trans (congrArg _ ((put_past (by decide +kernel)).trans (congrArg _ put_here)))))))
theorem fF_new : putF "fires" (.ref fi) (putF "wind" (.ref wi) (putF "worths" (.ref wo) (putF "slownesses" (.ref s) (putF "wide" (.int (w : Int)) [])))) = fF w s wo wi fi := by
  have e1 : putF "wide" (.int (w : Int)) [] = ([("wide", .int (w : Int))] : List (Str × V)) := rfl
  have e2 : putF "slownesses" (.ref s) ([("wide", .int (w : Int))] : List (Str × V)) = ([("wide", .int (w : Int)), ("slownesses", .ref s)] : List (Str × V)) := (put_past (by decide +kernel)).trans rfl
  have e3 : putF "worths" (.ref wo) ([("wide", .int (w : Int)), ("slownesses", .ref s)] : List (Str × V)) = ([("wide", .int (w : Int)), ("slownesses", .ref s), ("worths", .ref wo)] : List (Str × V)) := (put_past (by decide +kernel)).trans (congrArg _ ((put_past (by decide +kernel)).trans rfl))
  have e4 : putF "wind" (.ref wi) ([("wide", .int (w : Int)), ("slownesses", .ref s), ("worths", .ref wo)] : List (Str × V)) = ([("wide", .int (w : Int)), ("slownesses", .ref s), ("worths", .ref wo), ("wind", .ref wi)] : List (Str × V)) := (put_past (by decide +kernel)).trans (congrArg _ ((put_past (by decide +kernel)).trans (congrArg _ ((put_past (by decide +kernel)).trans rfl))))
  rw [e1, e2, e3, e4]
  exact (put_past (by decide +kernel)).trans (congrArg _ ((put_past (by decide +kernel)).trans (congrArg _ ((put_past (by decide +kernel)).trans (congrArg _ ((put_past (by decide +kernel)).trans rfl))))))
end
def slows (f : Sw96.Forest) : List Nat := f.places.map fun p => p.slow
def worths (f : Sw96.Forest) : List Nat := f.places.map fun p => p.worth
/-- the forest f stands at a; where its parts stand -/
structure ForestIn (K : PySem.W.Frag) (C : Addr) (H : Hp) (a : Addr) (f : Sw96.Forest) (dx s wo wi fi : Addr) : Prop where
  ob : H a = some (.ins C dx (fF f.width s wo wi fi))
  sl : H s = some (.lst (nums (slows f)))
  wo : H wo = some (.lst (nums (worths f)))
  wi : SqT K H wi (nums f.wind)
  fi : H fi = some (.lst (nums f.fires))
def ForestAt (K : PySem.W.Frag) (C : Addr) (H : Hp) (a : Addr) (f : Sw96.Forest) : Prop := ∃ dx s wo wi fi, ForestIn K C H a f dx s wo wi fi
theorem ForestIn.same {K : PySem.W.Frag} {C : Addr} {H H' : Hp} {a : Addr} {f : Sw96.Forest} {dx s wo wi fi : Addr} (h : ForestIn K C H a f dx s wo wi fi) (e : Same H H') : ForestIn K C H' a f dx s wo wi fi :=
  ⟨e _ _ h.ob, e _ _ h.sl, e _ _ h.wo, same_tup e h.wi, e _ _ h.fi⟩
theorem ForestAt.same {K : PySem.W.Frag} {C : Addr} {H H' : Hp} {a : Addr} {f : Sw96.Forest} (h : ForestAt K C H a f) (e : Same H H') : ForestAt K C H' a f := by
  obtain ⟨dx, s, wo, wi, fi, h⟩ := h
  exact ⟨dx, s, wo, wi, fi, h.same e⟩
theorem slow_at {f : Sw96.Forest} {i : Nat} (h : i < f.places.length) : (slows f)[i]? = some (f.slow i) := by
  unfold slows Sw96.Forest.slow
  rw [List.getElem?_map, List.getElem?_eq_getElem h]
  rfl
theorem worth_at {f : Sw96.Forest} {i : Nat} (h : i < f.places.length) : (worths f)[i]? = some (Fb.wo f i) := by
  unfold worths Fb.wo
  rw [List.getElem?_map, List.getElem?_eq_getElem h]
  rfl
theorem worths_len (f : Sw96.Forest) : (worths f).length = f.places.length := List.length_map ..

/-! ### 3. What the top has written -/
structure Txt (K : PySem.W.Frag) (mg : Str → Option Value) (CF CD : Addr) : Prop where
  clF : Cls K CF
  clD : Cls K CD
  nWide : NoAttr K CF "wide"
  nSlow : NoAttr K CF "slownesses"
  nWorths : NoAttr K CF "worths"
  nWind : NoAttr K CF "wind"
  nFires : NoAttr K CF "fires"
  nForest : NoAttr K CD "forest"
  gF : mg "Forest" = some (.ref CF)
  gD : mg "Desk" = some (.ref CD)
  len : mg "len" = none
  range : mg "range" = none
  sorted : mg "sorted" = none
  sum : mg "sum" = none
  tuple : mg "tuple" = none
  mostWide : ∃ t, mg "MOST_WIDE" = some (.int 5 t)
  mostRows : ∃ t, mg "MOST_ROWS" = some (.int 5 t)
  slowest : ∃ t, mg "SLOWEST" = some (.int 60 t)
  dearest : ∃ t, mg "DEAREST" = some (.int 1000 t)
  strongest : ∃ t, mg "STRONGEST" = some (.int 9 t)
  lastTime : ∃ t, mg "LAST_TIME" = some (.int 100000 t)
  mostBreaks : ∃ t, mg "MOST_BREAKS" = some (.int 2 t)
  calm : ∃ a, mg "CALM" = some (.ref a) ∧ WT K a (nums [1, 1, 1, 1])
  numbers : ∃ a, mg "NUMBERS" = some (.ref a) ∧ WT K a (nums [1, 4, 1, 1, 0, 1, 2, 1])
  rowed : ∃ a, mg "ROWED" = some (.ref a) ∧ WT K a (nums [0, 4, 5])
/-! ### 4. Defs and methods by their promises -/
def Cal (P : Program) (w : World) (K : PySem.W.Frag) (mg : Str → Option Value) (base : Heap) (k : Nat) (x : Str) (ps : List Str) (sp : Sp) : Prop :=
  ∃ f fd, mg x = some (.ref f) ∧ PySem.W.keepIn K (.ref f) = true ∧ Binds K fd ps [] ∧ FnOk P w K mg base CX0 k f fd ps sp
def MCal (P : Program) (w : World) (K : PySem.W.Frag) (mg : Str → Option Value) (base : Heap) (k : Nat) (C : Addr) (x : Str) (ps : List Str) (sp : Sp) : Prop :=
  ∃ f fd, Meth K C x f ∧ Binds K fd ps [] ∧ FnOk P w K mg base CX0 k f fd ps sp
def ICal (P : Program) (w : World) (K : PySem.W.Frag) (mg : Str → Option Value) (base : Heap) (k : Nat) (C : Addr) (ps : List Str) (sp : Sp) : Prop :=
  ∃ f fd, Mk K C f ∧ Binds K fd ps [] ∧ FnOk P w K mg base CX0 k f fd ps sp
end Fw

/-! nearest -/
namespace Fw
open PySem PySem.Spec PyProof.Rows L2
/-- what nearest hands back -/
def NearR (ks : List Nat) (T : Nat → Nat) (ds r : List Nat) : Prop :=
  (r = [] ∧ ∀ i ∈ ks, i ∈ ds) ∨ ∃ m, r = [m] ∧ m ∈ ks ∧ m ∉ ds ∧ ∀ j ∈ ks, j ∉ ds → T m ≤ T j
theorem NearR.perm {ks L : List Nat} {T : Nat → Nat} {ds r : List Nat} (h : NearR L T ds r) (p : L.Perm ks) : NearR ks T ds r := by
  rcases h with ⟨h1, h2⟩ | ⟨m, h1, h2, h3, h4⟩
  · exact .inl ⟨h1, fun i hi => h2 i (p.mem_iff.mpr hi)⟩
  · exact .inr ⟨m, h1, p.mem_iff.mp h2, h3, fun j hj => h4 j (p.mem_iff.mpr hj)⟩
theorem NearR.nil {T : Nat → Nat} {ds : List Nat} : NearR [] T ds [] := .inl ⟨rfl, fun i hi => by cases hi⟩
theorem NearR.skip {L : List Nat} {T : Nat → Nat} {ds r : List Nat} {z : Nat} (h : NearR L T ds r) (hz : z ∈ ds) : NearR (L ++ [z]) T ds r := by
  rcases h with ⟨h1, h2⟩ | ⟨m, h1, h2, h3, h4⟩
  · refine .inl ⟨h1, fun i hi => ?_⟩
    rcases List.mem_append.mp hi with hi | hi
    · exact h2 i hi
    · rw [List.mem_singleton.mp hi]
      exact hz
  · refine .inr ⟨m, h1, List.mem_append.mpr (.inl h2), h3, fun j hj hd => ?_⟩
    rcases List.mem_append.mp hj with hj | hj
    · exact h4 j hj hd
    · rw [List.mem_singleton.mp hj] at hd
      exact absurd hz hd
theorem NearR.take {L : List Nat} {T : Nat → Nat} {ds r : List Nat} {z : Nat} (h : NearR L T ds r) (hz : z ∉ ds) (hr : r = [] ∨ ∃ m, r = [m] ∧ T z < T m) : NearR (L ++ [z]) T ds [z] := by
  refine .inr ⟨z, rfl, List.mem_append.mpr (.inr (List.mem_singleton.mpr rfl)), hz, fun j hj hd => ?_⟩
  rcases List.mem_append.mp hj with hj | hj
  · rcases h with ⟨h1, h2⟩ | ⟨m, h1, h2, h3, h4⟩
    · exact absurd (h2 j hj) hd
    · rcases hr with hr | ⟨m', hr, hlt⟩
      · rw [hr] at h1
        cases h1
      · rw [hr] at h1
        cases h1
        have := h4 j hj hd
        omega
  · rw [List.mem_singleton.mp hj]
    exact Nat.le_refl _
theorem NearR.keep {L : List Nat} {T : Nat → Nat} {ds : List Nat} {z m : Nat} (h : NearR L T ds [m]) (hr : ¬ T z < T m) : NearR (L ++ [z]) T ds [m] := by
  rcases h with ⟨h1, h2⟩ | ⟨m', h1, h2, h3, h4⟩
  · cases h1
  · cases h1
    refine .inr ⟨m, rfl, List.mem_append.mpr (.inl h2), h3, fun j hj hd => ?_⟩
    rcases List.mem_append.mp hj with hj | hj
    · exact h4 j hj hd
    · rw [List.mem_singleton.mp hj]
      omega
/-- nearest(times, done) -/
def spNear : Sp := fun vs H Q _ => ∃ (a b : Addr) (ks ds : List Nat) (T : Nat → Nat), vs = [.ref a, .ref b] ∧ H a = some (.dK (dct ks (tv T))) ∧ H b = some (.dK (dct ds dv)) ∧ ks.length < 64 ∧
  ∀ (p : Addr) (r : List Nat) (H' : Hp), Same H H' → H p = none → H' p = some (.lst (nums r)) → NearR ks T ds r → Q (.ref p) H'
section
variable {P : Program} {w : World} {K : PySem.W.Frag} {mg : Str → Option Value} {base : Heap} {CF CD : Addr}
theorem scNear : FnScope ["times", "done", "found", "place"] ["times", "done"] (defScope sNear) := ⟨rfl, rfl, rfl, by decide +kernel, rfl, by decide +kernel, by decide +kernel⟩
theorem ok_near {f : Addr} {fd : FuncData} (F : Fun K "nearest" "nearest" sNear f fd) (T : Txt K mg CF CD) : FnOk P w K mg base CX0 1 f fd ["times", "done"] spNear := by
  refine F.ok scNear (fun vs H Q E h => ?_) (fun cdv A outer s H vs Q E hr h => ?_)
  · obtain ⟨a, b, ks, ds, T, rfl, _⟩ := h
    rfl
  · obtain ⟨a, b, ks, ds, tm, rfl, ha, hb, h64, k⟩ := h
    have hu := hu_of hr
    refine ⟨_, pss_cons (ps_set (i := 2) scNear.nd rfl (Or.inl rfl) (pe_lst pa_nil))
      (pss_cons (ps_for PassesOwn.never rfl (pi_list (pe_callB (call_sortedDI rfl) (by rfl) T.sorted (by decide +kernel) (pa_cons (pv 0) pa_nil))) (pg_name (i := 3) scNear.nd rfl (Or.inl rfl))
        (pss_one (ps_if (PW.pt (pw_and (pt_cmp (pc_dnotin hu (pv 3) (pv 1)) rfl) (pw_and1 (PW.pt (pw_or (pt_cmpR (op_eqNil hu) (pv 2) (pe_lst pa_nil) (nomark _))
            (pw_or1 (pt_cmpR op_lt (pe_dget hu (pv 0) (pv 3) (fun _ _ => rfl)) (pe_dget hu (pv 0) (pe_ix ix_list (pv 2) pe_int (fun _ _ => rfl)) (fun _ _ => rfl)) (nomark _))))))))
          (pss_one (ps_set (i := 2) scNear.nd rfl (Or.inl rfl) (pe_lst (pa_cons (pv 3) pa_nil)))) pss_nil)))
      (pss_one (ps_ret (pv 2)))), ?_⟩
    -- found = []
    refine ⟨by decide, fun q hq => ?_⟩
    have s1 : Same H (upd H q (.lst [])) := same_upd (Same.refl H) hq
    -- sorted(times)
    refine ⟨_, rfl, a, _, ks.map (fun i : Nat => (i : Int)), rfl, .inl (s1 _ _ ha), dct_keys _ _, by rw [List.length_map]; exact h64, fun ys p perm hs hp => ?_⟩
    obtain ⟨L, rfl, pL⟩ := Fb.ints_keys perm
    have hp0 : H p = none := s1.free hp
    have s2 : Same H (upd (upd H q (.lst [])) p (.lst ((L.map fun i : Nat => (i : Int)).map V.int))) := same_upd s1 hp0
    rw [nums_ints] at s2 ⊢
    have hqp : q ≠ p := fun e => by
      rw [e, upd_same] at hp
      cases hp
    refine ⟨p, rfl, ⟨_, SqL.of upd_same⟩, for_list (K := K) (a := p) (xs := nums L) (fun i σ H' => ∃ (q : Addr) (r : List Nat) (v : Option V), σ = [some (.ref a), some (.ref b), some (.ref q), v] ∧ Same H H' ∧ H' p = some (.lst (nums L)) ∧ H q = none ∧ H' q = some (.lst (nums r)) ∧ NearR (L.take i) tm ds r)
      ⟨q, [], none, rfl, s2, upd_same, hq, by rw [upd_ne hqp, upd_same]; rfl, NearR.nil⟩ (fun i σ H' _ ⟨_, _, _, _, _, h, _⟩ => SqL.of h) ?_ ?_⟩
    · rintro i y σ H' hi ⟨q, r, v, rfl, s3, hp3, hq0, hq3, R⟩
      obtain ⟨z, hz, rfl⟩ := nums_get hi
      have zk : z ∈ ks := pL.mem_iff.mp (List.mem_of_getElem? hz)
      have ha3 := s3 _ _ ha
      have hb3 := s3 _ _ hb
      have tk := take_more hz
      -- place not in done
      refine ⟨_, rfl, _, rfl, b, _, rfl, DGet.k (k := Sum.inl (z : Int)) hb3, _, rfl, ?_⟩
      by_cases c : z ∈ ds
      · rw [dct_in c]
        refine iteF (iteF ?_)
        refine ⟨q, r, _, rfl, s3, hp3, hq0, hq3, ?_⟩
        rw [tk]
        exact R.skip c
      · rw [dct_out c]
        refine iteT ?_
        -- found == []
        refine ⟨_, rfl, by decide, fun e he => ?_⟩
        have s4 : Same H' (upd H' e (.lst [])) := same_upd (Same.refl H') he
        have he0 : H e = none := s3.free he
        refine ⟨q, e, _, rfl, rfl, SqL.of (s4 _ _ hq3), SqL.of upd_same, _, rfl, ?_⟩
        have s5 : Same H (upd H' e (.lst [])) := same_upd s3 he0
        rcases R with ⟨rfl, hall⟩ | ⟨m, rfl, hm, hmd, hmin⟩
        · refine iteT (iteT ?_)
          refine ⟨_, rfl, by show 1 ≤ sizeLine; decide, fun q2 hq2 => ?_⟩
          have hq20 : H q2 = none := s5.free hq2
          refine ⟨q2, [z], _, rfl, same_upd s5 hq20, ?_, hq20, by rw [upd_same]; rfl, ?_⟩
          · rw [upd_ne (ne_of_none (s4 _ _ hp3) hq2)]
            exact s4 _ _ hp3
          · rw [tk]
            exact NearR.take (.inl ⟨rfl, hall⟩) c (.inl rfl)
        · refine iteF ?_
          -- times[place] < times[found[0]]
          have mk : m ∈ ks := pL.mem_iff.mp (List.mem_of_mem_take hm)
          refine ⟨_, rfl, _, rfl, a, V.int (tm z : Int), rfl, ?_, _, rfl, _, rfl, q, _, 0, V.int (m : Int), rfl, rfl, SqL.of (s4 _ _ hq3), rfl, a, V.int (tm m : Int), rfl, ?_, _, _, rfl, rfl, _, rfl, ?_⟩
          · have g := DGet.k (k := (Sum.inl (z : Int) : Key)) (s4 _ _ ha3)
            rw [dct_in zk] at g
            exact g
          · have g := DGet.k (k := (Sum.inl (m : Int) : Key)) (s4 _ _ ha3)
            rw [dct_in mk] at g
            exact g
          · by_cases lt : tm z < tm m
            · refine if_true_of (decide_eq_true (by omega)) ?_
              refine ⟨_, rfl, by show 1 ≤ sizeLine; decide, fun q2 hq2 => ?_⟩
              have hq20 : H q2 = none := s5.free hq2
              refine ⟨q2, [z], _, rfl, same_upd s5 hq20, ?_, hq20, by rw [upd_same]; rfl, ?_⟩
              · rw [upd_ne (ne_of_none (s4 _ _ hp3) hq2)]
                exact s4 _ _ hp3
              · rw [tk]
                exact NearR.take (.inr ⟨m, rfl, hm, hmd, hmin⟩) c (.inr ⟨m, rfl, lt⟩)
            · refine if_false_of (decide_eq_false (by omega)) ?_
              refine ⟨q, [m], _, rfl, s5, s4 _ _ hp3, hq0, s4 _ _ hq3, ?_⟩
              rw [tk]
              exact NearR.keep (.inr ⟨m, rfl, hm, hmd, hmin⟩) lt
    · rintro σ H' ⟨q, r, v, rfl, s3, hp3, hq0, hq3, R⟩
      rw [nums_len, List.take_length] at R
      exact ⟨_, rfl, k q r H' s3 hq0 hq3 (R.perm pL)⟩
end
end Fw

/-! The methods of Forest -/
namespace Fw
open PySem PySem.Spec PyProof.Rows L2
/-- a statement that leaves the slots as they are: what holds behind it, told once -/
theorem seq_mid {t u : TS} {D : Ends} {σ : L2.St} {H : Hp} (G : Hp → Prop) (h1 : ∀ nx : L2.St → Hp → Prop, (∀ H', G H' → nx σ H') → t { D with nx := nx } σ H) (h2 : ∀ H', G H' → u D σ H') : tSeq t u D σ H := h1 _ h2
/-- tuples of two numbers -/
def PairsAt (H : Hp) : List Addr → List (Nat × Nat) → Prop
  | [], [] => True
  | t :: ts, x :: xs => H t = some (.tup [.int (x.1 : Int), .int (x.2 : Int)]) ∧ PairsAt H ts xs
  | _, _ => False
theorem PairsAt.mono {H H' : Hp} : ∀ {ts : List Addr} {xs : List (Nat × Nat)}, PairsAt H ts xs → (∀ t u, H t = some (.tup u) → H' t = some (.tup u)) → PairsAt H' ts xs
  | [], [], _, _ => trivial
  | _ :: _, _ :: _, h, k => ⟨k _ _ h.1, PairsAt.mono h.2 k⟩
  | [], _ :: _, h, _ => h.elim
  | _ :: _, [], h, _ => h.elim
theorem PairsAt.snoc {H : Hp} {t : Addr} {x : Nat × Nat} : ∀ {ts : List Addr} {xs : List (Nat × Nat)}, PairsAt H ts xs → H t = some (.tup [.int (x.1 : Int), .int (x.2 : Int)]) → PairsAt H (ts ++ [t]) (xs ++ [x])
  | [], [], _, h => ⟨h, trivial⟩
  | _ :: _, _ :: _, h, k => ⟨h.1, PairsAt.snoc h.2 k⟩
  | [], _ :: _, h, _ => h.elim
  | _ :: _, [], h, _ => h.elim
theorem PairsAt.len {H : Hp} : ∀ {ts : List Addr} {xs : List (Nat × Nat)}, PairsAt H ts xs → ts.length = xs.length
  | [], [], _ => rfl
  | _ :: _, _ :: _, h => congrArg (· + 1) (PairsAt.len h.2)
  | [], _ :: _, h => h.elim
  | _ :: _, [], h => h.elim
theorem PairsAt.get {H : Hp} : ∀ {ts : List Addr} {xs : List (Nat × Nat)} {k : Nat} {v : V}, PairsAt H ts xs → (ts.map V.ref)[k]? = some v → ∃ t x, v = .ref t ∧ xs[k]? = some x ∧ H t = some (.tup [.int (x.1 : Int), .int (x.2 : Int)])
  | [], [], k, v, _, e => by
    simp at e
  | t :: _, x :: _, 0, v, h, e => ⟨t, x, (Option.some.inj e).symm, rfl, h.1⟩
  | _ :: _, _ :: _, k + 1, v, h, e => PairsAt.get (k := k) h.2 e
  | [], _ :: _, _, _, h, _ => h.elim
  | _ :: _, [], _, _, h, _ => h.elim
/-- a new list of pairs at p -/
structure PL (H H' : Hp) (p : Addr) (ts : List Addr) (xs : List (Nat × Nat)) : Prop where
  same : Same H H'
  new : H p = none
  lst : H' p = some (.lst (ts.map V.ref))
  prs : PairsAt H' ts xs
theorem PL.start {H : Hp} {p : Addr} (hp : H p = none) : PL H (upd H p (.lst [])) p [] [] := ⟨same_upd (Same.refl H) hp, hp, upd_same, trivial⟩
/-- a tuple is made and appended -/
theorem PL.push {H H' : Hp} {p t : Addr} {ts : List Addr} {xs : List (Nat × Nat)} (h : PL H H' p ts xs) (ht : H' t = none) (x : Nat × Nat) :
    (upd H' t (.tup [.int (x.1 : Int), .int (x.2 : Int)])) p = some (.lst (ts.map V.ref)) ∧ PL H (upd (upd H' t (.tup [.int (x.1 : Int), .int (x.2 : Int)])) p (.lst (ts.map V.ref ++ [V.ref t]))) p (ts ++ [t]) (xs ++ [x]) := by
  have ht0 : H t = none := h.same.free ht
  have hpt : p ≠ t := ne_of_none h.lst ht
  have e1 : (upd H' t (.tup [.int (x.1 : Int), .int (x.2 : Int)])) p = some (.lst (ts.map V.ref)) := by
    rw [upd_ne hpt]
    exact h.lst
  refine ⟨e1, same_upd (same_upd h.same ht0) h.new, h.new, ?_, ?_⟩
  · rw [upd_same, List.map_append]
    rfl
  · refine PairsAt.snoc (h.prs.mono fun b u e => ?_) ?_
    · rw [upd_ne (ne_of e h.lst (by intro z; cases z)), upd_ne (ne_of_none e ht)]
      exact e
    · rw [upd_ne hpt.symm, upd_same]
theorem PL.push2 {H H' : Hp} {p t : Addr} {ts : List Addr} {xs : List (Nat × Nat)} (h : PL H H' p ts xs) (ht : H' t = none) (x : Nat × Nat) {z1 z2 : Int} (e1 : z1 = (x.1 : Int)) (e2 : z2 = (x.2 : Int)) :
    (upd H' t (.tup [.int z1, .int z2])) p = some (.lst (ts.map V.ref)) ∧ PL H (upd (upd H' t (.tup [.int z1, .int z2])) p (.lst (ts.map V.ref ++ [V.ref t]))) p (ts ++ [t]) (xs ++ [x]) := by
  subst e1 e2
  exact h.push ht x
/-- the heap grows elsewhere -/
theorem PL.same' {H H' H2 : Hp} {p : Addr} {ts : List Addr} {xs : List (Nat × Nat)} (h : PL H H' p ts xs) (s : Same H' H2) : PL H H2 p ts xs :=
  ⟨h.same.trans s, h.new, s _ _ h.lst, h.prs.mono fun _ _ e => s _ _ e⟩
theorem wind_at {f : Sw96.Forest} (W : Fb.Wf f) {k : Nat} (hk : k < 4) : f.wind[k]? = some (Fb.wd f k) := by
  unfold Fb.wd
  rw [List.getD_eq_getElem?_getD, List.getElem?_eq_getElem (by rw [W.wlen]; exact hk)]
  rfl
theorem wd_le {f : Sw96.Forest} (W : Fb.Wf f) {k : Nat} (hk : k < 4) : Fb.wd f k ≤ 9 := (W.wind _ (List.mem_of_getElem? (wind_at W hk))).2

/-! promises -/
def spFInit (K : PySem.W.Frag) (C : Addr) : Sp := fun vs H Q _ => ∃ (p dx s wo : Addr) (w : Nat) (ps : List Sw96.Place), vs = [.ref p, .int (w : Int), .ref s, .ref wo] ∧ H p = some (.ins C dx []) ∧
  H s = some (.lst (nums (ps.map fun p => p.slow))) ∧ H wo = some (.lst (nums (ps.map fun p => p.worth))) ∧
  ∀ (H' : Hp) (wi fi : Addr), H fi = none → ForestIn K C H' p ⟨w, ps, [1, 1, 1, 1], []⟩ dx s wo wi fi → (∀ b o, H b = some o → b ≠ p → H' b = some o) → Q .non H'
def spSize (K : PySem.W.Frag) (C : Addr) : Sp := fun vs H Q _ => ∃ (a : Addr) (f : Sw96.Forest), vs = [.ref a] ∧ ForestAt K C H a f ∧ Q (.int (f.places.length : Nat)) H
def spHas (K : PySem.W.Frag) (C : Addr) : Sp := fun vs H Q _ => ∃ (a : Addr) (f : Sw96.Forest) (i : Nat), vs = [.ref a, .int (i : Int)] ∧ ForestAt K C H a f ∧ Q (.bl (decide (i < f.places.length))) H
def spBurns (K : PySem.W.Frag) (C : Addr) : Sp := fun vs H Q _ => ∃ (a b : Addr) (f : Sw96.Forest) (i : Nat) (br : List Nat), vs = [.ref a, .int (i : Int), .ref b] ∧ ForestAt K C H a f ∧ i < f.places.length ∧ H b = some (.lst (nums br)) ∧ Q (.bl (Fb.burns f br i)) H
def spNbrs (K : PySem.W.Frag) (C : Addr) : Sp := fun vs H Q _ => ∃ (a : Addr) (f : Sw96.Forest) (i : Nat), vs = [.ref a, .int (i : Int)] ∧ ForestAt K C H a f ∧ Fb.Wf f ∧ i < f.places.length ∧
  ∀ (p : Addr) (ts : List Addr) (H' : Hp), PL H H' p ts (Fb.nbrs f i) → Q (.ref p) H'
def spWays (K : PySem.W.Frag) (C : Addr) : Sp := fun vs H Q _ => ∃ (a b : Addr) (f : Sw96.Forest) (i : Nat) (br : List Nat), vs = [.ref a, .int (i : Int), .ref b] ∧ ForestAt K C H a f ∧ Fb.Wf f ∧ i < f.places.length ∧ H b = some (.lst (nums br)) ∧
  ∀ (p : Addr) (ts : List Addr) (H' : Hp), PL H H' p ts (Fb.ways f br i) → Q (.ref p) H'
section
variable {P : Program} {w : World} {K : PySem.W.Frag} {mg : Str → Option Value} {base : Heap} {CF CD : Addr}
theorem scFInit : FnScope ["self", "wide", "slownesses", "worths"] ["self", "wide", "slownesses", "worths"] (defScope sFInit) := ⟨rfl, rfl, rfl, by decide +kernel, rfl, by decide +kernel, by decide +kernel⟩
theorem ok_finit {f : Addr} {fd : FuncData} (F : Fun K "__init__" "Forest.__init__" sFInit f fd) (T : Txt K mg CF CD) : FnOk P w K mg base CX0 1 f fd ["self", "wide", "slownesses", "worths"] (spFInit K CF) := by
  refine F.ok scFInit (fun vs H Q E h => ?_) (fun cdv A outer s H vs Q E hr h => ?_)
  · obtain ⟨p, dx, s, wo, w, ps, rfl, _⟩ := h
    rfl
  · obtain ⟨p, dx, s, wo, w, ps, rfl, hp, hs, hwo, k⟩ := h
    obtain ⟨ca, gc, wc⟩ := T.calm
    refine ⟨_, pss_cons (ps_fld (pv 0) (pv 1) rfl) (pss_cons (ps_fld (pv 0) (pv 2) rfl) (pss_cons (ps_fld (pv 0) (pv 3) rfl) (pss_cons (ps_fld (pv 0) (pe_glob (v := .ref ca) rfl gc rfl) rfl) (pss_one (ps_fld (pv 0) (pe_lst pa_nil) rfl))))), ?_⟩
    refine ⟨_, rfl, _, rfl, p, CF, dx, [], rfl, hp, T.clF, T.nWide, (by show 0 < 1000; decide), ?_⟩
    refine ⟨_, rfl, _, rfl, p, CF, dx, _, rfl, upd_same, T.clF, T.nSlow, (by show 1 < 1000; decide), ?_⟩
    refine ⟨_, rfl, _, rfl, p, CF, dx, _, rfl, upd_same, T.clF, T.nWorths, (by show 2 < 1000; decide), ?_⟩
    refine ⟨_, rfl, p, CF, dx, _, rfl, upd_same, T.clF, T.nWind, (by show 3 < 1000; decide), ?_⟩
    refine ⟨by decide, fun fi hfi => ?_⟩
    have hpf : p ≠ fi := ne_of_none upd_same hfi
    refine ⟨_, rfl, p, CF, dx, _, rfl, by rw [upd_ne hpf]; exact upd_same, T.clF, T.nFires, (by show 4 < 1000; decide), ?_⟩
    have keep : ∀ b o, H b = some o → b ≠ p → b ≠ fi := fun b o e hb z => by
      rw [z] at e hb
      rw [upd_ne hb, upd_ne hb, upd_ne hb, upd_ne hb, e] at hfi
      cases hfi
    have hsp : s ≠ p := ne_of hs hp (by intro z; cases z)
    have hwp : wo ≠ p := ne_of hwo hp (by intro z; cases z)
    have kp : ∀ b o, H b = some o → b ≠ p → (upd (upd (upd (upd (upd (upd H p (.ins CF dx (putF "wide" (.int (w : Int)) []))) p (.ins CF dx (putF "slownesses" (.ref s) (putF "wide" (.int (w : Int)) [])))) p (.ins CF dx (putF "worths" (.ref wo) (putF "slownesses" (.ref s) (putF "wide" (.int (w : Int)) []))))) p (.ins CF dx (putF "wind" (.ref ca) (putF "worths" (.ref wo) (putF "slownesses" (.ref s) (putF "wide" (.int (w : Int)) [])))))) fi (.lst [])) p (.ins CF dx (putF "fires" (.ref fi) (putF "wind" (.ref ca) (putF "worths" (.ref wo) (putF "slownesses" (.ref s) (putF "wide" (.int (w : Int)) []))))))) b = some o := fun b o e hb => by
      rw [upd_ne hb, upd_ne (keep b o e hb), upd_ne hb, upd_ne hb, upd_ne hb, upd_ne hb]
      exact e
    have hfi0 : H fi = none := by
      rw [upd_ne hpf.symm, upd_ne hpf.symm, upd_ne hpf.symm, upd_ne hpf.symm] at hfi
      exact hfi
    refine k _ ca fi hfi0 ⟨?_, kp _ _ hs hsp, kp _ _ hwo hwp, wc.sq _, ?_⟩ kp
    · exact Eq.trans upd_same (congrArg (fun q => some (HO.ins CF dx q)) fF_new)
    · rw [upd_ne hpf.symm, upd_same]
      rfl
theorem scSize : FnScope ["self"] ["self"] (defScope sSize) := ⟨rfl, rfl, rfl, by decide +kernel, rfl, by decide +kernel, by decide +kernel⟩
theorem ok_size {f : Addr} {fd : FuncData} (F : Fun K "size" "Forest.size" sSize f fd) (T : Txt K mg CF CD) : FnOk P w K mg base CX0 1 f fd ["self"] (spSize K CF) := by
  refine F.ok scSize (fun vs H Q E h => ?_) (fun cdv A outer s H vs Q E hr h => ?_)
  · obtain ⟨a, f, rfl, _⟩ := h
    rfl
  · obtain ⟨a, f, rfl, ⟨dx, s, wo, wi, fi, h⟩, k⟩ := h
    refine ⟨_, pss_one (ps_ret (pe_callB call_len_seq (by rfl) T.len PySem.boot_len (pa_cons (pe_fld (pv 0) rfl) pa_nil))), ?_⟩
    refine ⟨_, rfl, a, CF, dx, _, _, rfl, h.ob, T.clF, T.nWorths, fF_worths, wo, _, rfl, .inl (SqL.of h.wo), ?_⟩
    rw [nums_len, worths_len]
    exact k
theorem scHas : FnScope ["self", "place"] ["self", "place"] (defScope sHas) := ⟨rfl, rfl, rfl, by decide +kernel, rfl, by decide +kernel, by decide +kernel⟩
theorem ok_has {f : Addr} {fd : FuncData} (F : Fun K "has_place" "Forest.has_place" sHas f fd) (T : Txt K mg CF CD) (mS : MCal P w K mg base 1 CF "size" ["self"] (spSize K CF)) : FnOk P w K mg base CX0 2 f fd ["self", "place"] (spHas K CF) := by
  refine F.ok scHas (fun vs H Q E h => ?_) (fun cdv A outer s H vs Q E hr h => ?_)
  · obtain ⟨a, f, i, rfl, _⟩ := h
    rfl
  · obtain ⟨a, f, i, rfl, hf, k⟩ := h
    obtain ⟨dx, s, wo, wi, fi, h⟩ := id hf
    obtain ⟨fs, fds, ms, bs, Gs⟩ := mS
    refine ⟨_, pss_one (ps_ret (pe_cmpR op_lt (pv 1) (pe_meth0 (pv 0) T.clF ms Gs hr bs .nil pass0) (nomark _))), ?_⟩
    refine ⟨_, rfl, _, rfl, a, dx, _, rfl, h.ob, fF_size, a, f, rfl, hf, _, _, rfl, rfl, ?_⟩
    have e : decide ((i : Int) < ((f.places.length : Nat) : Int)) = decide (i < f.places.length) := by
      rw [decide_eq_decide]
      omega
    show Q (V.bl (decide ((i : Int) < ((f.places.length : Nat) : Int)))) H
    rw [e]
    exact k
theorem scBurns : FnScope ["self", "place", "breaks"] ["self", "place", "breaks"] (defScope sBurns) := ⟨rfl, rfl, rfl, by decide +kernel, rfl, by decide +kernel, by decide +kernel⟩
theorem ok_burns {f : Addr} {fd : FuncData} (F : Fun K "burns" "Forest.burns" sBurns f fd) (T : Txt K mg CF CD) : FnOk P w K mg base CX0 1 f fd ["self", "place", "breaks"] (spBurns K CF) := by
  refine F.ok scBurns (fun vs H Q E h => ?_) (fun cdv A outer s H vs Q E hr h => ?_)
  · obtain ⟨a, b, f, i, br, rfl, _⟩ := h
    rfl
  · obtain ⟨a, b, f, i, br, rfl, ⟨dx, s, wo, wi, fi, h⟩, hi, hb, k⟩ := h
    refine ⟨_, pss_one (ps_ret (pe_and (pe_cmpR op_gt (pe_ix ix_list (pe_fld (pv 0) rfl) (pv 1) (fun _ _ => rfl)) pe_int (nomark _)) (pe_one (pe_cmpR op_notIn_seq (pv 1) (pv 2) rfl)))), ?_⟩
    refine ⟨_, rfl, a, CF, dx, _, _, rfl, h.ob, T.clF, T.nSlow, fF_slow, _, rfl, s, _, _, _, rfl, rfl, SqL.of h.sl, atI_nat (nums_at (slow_at hi)), _, _, rfl, rfl, _, rfl, ?_⟩
    unfold Fb.burns at k
    by_cases c : 0 < f.slow i
    · rw [decide_eq_true c, Bool.true_and] at k
      refine if_true_of (decide_eq_true (by omega)) ?_
      refine ⟨_, rfl, _, rfl, b, _, rfl, .inl (SqL.of hb), rfl, nums_flat _, ?_⟩
      rw [if_pos rfl, nums_in]
      exact k
    · rw [decide_eq_false c, Bool.false_and] at k
      exact if_false_of (decide_eq_false (by omega)) k
theorem scNbrs : FnScope ["self", "place", "found", "column"] ["self", "place"] (defScope sNbrs) := ⟨rfl, rfl, rfl, by decide +kernel, rfl, by decide +kernel, by decide +kernel⟩
theorem ok_nbrs {f : Addr} {fd : FuncData} (F : Fun K "neighbours" "Forest.neighbours" sNbrs f fd) (T : Txt K mg CF CD) (mS : MCal P w K mg base 1 CF "size" ["self"] (spSize K CF)) : FnOk P w K mg base CX0 2 f fd ["self", "place"] (spNbrs K CF) := by
  refine F.ok scNbrs (fun vs H Q E h => ?_) (fun cdv A outer s H vs Q E hr h => ?_)
  · obtain ⟨a, f, i, rfl, _⟩ := h
    rfl
  · obtain ⟨a, f, i, rfl, ⟨dx, s, wo, wi, fi, h⟩, W, hi, k⟩ := h
    obtain ⟨fs, fds, ms, bs, Gs⟩ := mS
    refine ⟨_, pss_cons (ps_set (i := 2) scNbrs.nd rfl (Or.inl rfl) (pe_lst pa_nil))
      (pss_cons (ps_set (i := 3) scNbrs.nd rfl (Or.inl rfl) (pe_op op_mod (pv 1) (pe_fld (pv 0) rfl)))
      (pss_cons (ps_if (pt_cmpR op_ge (pv 1) (pe_fld (pv 0) rfl) (nomark _)) (pss_one (ps_expr (pe_bm PySem.F.plainAttrs_list PySem.F.slot_list_append PySem.F.type_list_append mt_append (pv 2)
        (pa_cons (pe_tup (pa_cons (pe_op op_sub (pv 1) (pe_fld (pv 0) rfl)) (pa_cons (pe_ix ix_tup (pe_fld (pv 0) rfl) pe_int (fun _ _ => rfl)) pa_nil))) pa_nil)))) pss_nil)
      (pss_cons (ps_if (pt_cmpR op_lt (pe_op op_add (pv 3) pe_int) (pe_fld (pv 0) rfl) (nomark _)) (pss_one (ps_expr (pe_bm PySem.F.plainAttrs_list PySem.F.slot_list_append PySem.F.type_list_append mt_append (pv 2)
        (pa_cons (pe_tup (pa_cons (pe_op op_add (pv 1) pe_int) (pa_cons (pe_ix ix_tup (pe_fld (pv 0) rfl) pe_int (fun _ _ => rfl)) pa_nil))) pa_nil)))) pss_nil)
      (pss_cons (ps_if (pt_cmpR op_lt (pe_op op_add (pv 1) (pe_fld (pv 0) rfl)) (pe_meth0 (pv 0) T.clF ms Gs hr bs .nil pass0) (nomark _)) (pss_one (ps_expr (pe_bm PySem.F.plainAttrs_list PySem.F.slot_list_append PySem.F.type_list_append mt_append (pv 2)
        (pa_cons (pe_tup (pa_cons (pe_op op_add (pv 1) (pe_fld (pv 0) rfl)) (pa_cons (pe_ix ix_tup (pe_fld (pv 0) rfl) pe_int (fun _ _ => rfl)) pa_nil))) pa_nil)))) pss_nil)
      (pss_cons (ps_if (pt_cmpR op_gt (pv 3) pe_int (nomark _)) (pss_one (ps_expr (pe_bm PySem.F.plainAttrs_list PySem.F.slot_list_append PySem.F.type_list_append mt_append (pv 2)
        (pa_cons (pe_tup (pa_cons (pe_op op_sub (pv 1) pe_int) (pa_cons (pe_ix ix_tup (pe_fld (pv 0) rfl) pe_int (fun _ _ => rfl)) pa_nil))) pa_nil)))) pss_nil)
      (pss_one (ps_ret (pv 2)))))))), ?_⟩
    have w1 := W.w1
    -- found = []
    refine ⟨by decide, fun p hp => ?_⟩
    have L0 := PL.start hp
    have h0 := h.same L0.same
    -- column
    refine ⟨_, rfl, _, rfl, a, CF, dx, _, _, rfl, h0.ob, T.clF, T.nWide, fF_wide, _, _, rfl, rfl, (by omega), ?_⟩
    have ec : ((i : Int) % (f.width : Int)) = ((i % f.width : Nat) : Int) := by omega
    show gName 3 (V.int ((i : Int) % (f.width : Int))) _ _ _
    rw [ec]
    dsimp only [gName]
    have hmi : i % f.width ≤ i := Nat.mod_le _ _
    -- the four directions
    refine seq_mid (fun H' => ∃ ts, PL H H' p ts (if f.width ≤ i then [(i - f.width, Fb.wd f 0)] else [])) (fun nx knx => ?_) ?_
    · refine ⟨_, rfl, _, rfl, a, CF, dx, _, _, rfl, h0.ob, T.clF, T.nWide, fF_wide, _, _, rfl, rfl, _, rfl, ?_⟩
      by_cases c : f.width ≤ i
      · rw [if_pos c] at knx
        refine if_true_of (decide_eq_true (by omega)) ?_
        refine ⟨_, rfl, .inl ⟨rfl, _, SqL.of L0.lst⟩, _, rfl, _, rfl, a, CF, dx, _, _, rfl, h0.ob, T.clF, T.nWide, fF_wide, _, _, rfl, rfl, _, rfl, a, CF, dx, _, _, rfl, h0.ob, T.clF, T.nWind, fF_wind, wi, _, _, _, rfl, rfl, h0.wi, atI_nat (j := 0) (nums_at (wind_at W (by omega))), by show 2 ≤ sizeLine; decide, fun t ht => ?_⟩
        obtain ⟨q1, q2⟩ := L0.push2 ht (i - f.width, Fb.wd f 0) (z1 := (i : Int) - (f.width : Int)) (by show (i : Int) - (f.width : Int) = ((i - f.width : Nat) : Int); omega) rfl
        exact ⟨p, _, _, rfl, rfl, q1, big _ (by simp), knx _ ⟨_, q2⟩⟩
      · rw [if_neg c] at knx
        exact if_false_of (decide_eq_false (by omega)) (knx _ ⟨_, L0⟩)
    rintro H1 ⟨ts1, L1⟩
    have h1 := h.same L1.same
    refine seq_mid (fun H' => ∃ ts, PL H H' p ts ((if f.width ≤ i then [(i - f.width, Fb.wd f 0)] else []) ++ (if i % f.width + 1 < f.width then [(i + 1, Fb.wd f 1)] else []))) (fun nx knx => ?_) ?_
    · refine ⟨_, rfl, _, _, rfl, rfl, _, rfl, a, CF, dx, _, _, rfl, h1.ob, T.clF, T.nWide, fF_wide, _, _, rfl, rfl, _, rfl, ?_⟩
      by_cases c : i % f.width + 1 < f.width
      · rw [if_pos c] at knx
        refine if_true_of (decide_eq_true (by omega)) ?_
        refine ⟨_, rfl, .inl ⟨rfl, _, SqL.of L1.lst⟩, _, rfl, _, _, rfl, rfl, _, rfl, a, CF, dx, _, _, rfl, h1.ob, T.clF, T.nWind, fF_wind, wi, _, _, _, rfl, rfl, h1.wi, atI_nat (j := 1) (nums_at (wind_at W (by omega))), by show 2 ≤ sizeLine; decide, fun t ht => ?_⟩
        obtain ⟨q1, q2⟩ := L1.push ht (i + 1, Fb.wd f 1)
        exact ⟨p, _, _, rfl, rfl, q1, big _ (by rw [List.length_map, L1.prs.len]; split <;> simp), knx _ ⟨_, q2⟩⟩
      · rw [if_neg c, List.append_nil] at knx
        exact if_false_of (decide_eq_false (by omega)) (knx _ ⟨_, L1⟩)
    rintro H2 ⟨ts2, L2'⟩
    have h2 := h.same L2'.same
    refine seq_mid (fun H' => ∃ ts, PL H H' p ts (((if f.width ≤ i then [(i - f.width, Fb.wd f 0)] else []) ++ (if i % f.width + 1 < f.width then [(i + 1, Fb.wd f 1)] else [])) ++ (if i + f.width < f.places.length then [(i + f.width, Fb.wd f 2)] else []))) (fun nx knx => ?_) ?_
    · refine ⟨_, rfl, _, rfl, a, CF, dx, _, _, rfl, h2.ob, T.clF, T.nWide, fF_wide, _, _, rfl, rfl, _, rfl, a, dx, _, rfl, h2.ob, fF_size, a, f, rfl, ⟨dx, s, wo, wi, fi, h2⟩, _, _, rfl, rfl, _, rfl, ?_⟩
      by_cases c : i + f.width < f.places.length
      · rw [if_pos c] at knx
        refine if_true_of (decide_eq_true (by omega)) ?_
        refine ⟨_, rfl, .inl ⟨rfl, _, SqL.of L2'.lst⟩, _, rfl, _, rfl, a, CF, dx, _, _, rfl, h2.ob, T.clF, T.nWide, fF_wide, _, _, rfl, rfl, _, rfl, a, CF, dx, _, _, rfl, h2.ob, T.clF, T.nWind, fF_wind, wi, _, _, _, rfl, rfl, h2.wi, atI_nat (j := 2) (nums_at (wind_at W (by omega))), by show 2 ≤ sizeLine; decide, fun t ht => ?_⟩
        obtain ⟨q1, q2⟩ := L2'.push ht (i + f.width, Fb.wd f 2)
        exact ⟨p, _, _, rfl, rfl, q1, big _ (by rw [List.length_map, L2'.prs.len, List.length_append]; split <;> split <;> simp), knx _ ⟨_, q2⟩⟩
      · rw [if_neg c, List.append_nil] at knx
        exact if_false_of (decide_eq_false (by omega)) (knx _ ⟨_, L2'⟩)
    rintro H3 ⟨ts3, L3⟩
    have h3 := h.same L3.same
    refine seq_mid (fun H' => ∃ ts, PL H H' p ts ((((if f.width ≤ i then [(i - f.width, Fb.wd f 0)] else []) ++ (if i % f.width + 1 < f.width then [(i + 1, Fb.wd f 1)] else [])) ++ (if i + f.width < f.places.length then [(i + f.width, Fb.wd f 2)] else [])) ++ (if 0 < i % f.width then [(i - 1, Fb.wd f 3)] else []))) (fun nx knx => ?_) ?_
    · refine ⟨_, rfl, _, _, rfl, rfl, _, rfl, ?_⟩
      by_cases c : 0 < i % f.width
      · rw [if_pos c] at knx
        refine if_true_of (decide_eq_true (by omega)) ?_
        refine ⟨_, rfl, .inl ⟨rfl, _, SqL.of L3.lst⟩, _, rfl, _, _, rfl, rfl, _, rfl, a, CF, dx, _, _, rfl, h3.ob, T.clF, T.nWind, fF_wind, wi, _, _, _, rfl, rfl, h3.wi, atI_nat (j := 3) (nums_at (wind_at W (by omega))), by show 2 ≤ sizeLine; decide, fun t ht => ?_⟩
        obtain ⟨q1, q2⟩ := L3.push2 ht (i - 1, Fb.wd f 3) (z1 := (i : Int) - 1) (by show (i : Int) - 1 = ((i - 1 : Nat) : Int); omega) rfl
        exact ⟨p, _, _, rfl, rfl, q1, big _ (by rw [List.length_map, L3.prs.len, List.length_append, List.length_append]; split <;> split <;> split <;> simp), knx _ ⟨_, q2⟩⟩
      · rw [if_neg c, List.append_nil] at knx
        exact if_false_of (decide_eq_false (by omega)) (knx _ ⟨_, L3⟩)
    rintro H4 ⟨ts4, L4⟩
    refine ⟨_, rfl, k p ts4 H4 ?_⟩
    rw [List.append_assoc, List.append_assoc] at L4
    exact L4
end
end Fw

/-! ways_from and times_of -/
namespace Fw
open PySem PySem.Spec PyProof.Rows L2
theorem nbrs_wind {f : Sw96.Forest} (W : Fb.Wf f) {i : Nat} {x : Nat × Nat} (h : x ∈ Fb.nbrs f i) : x.2 ≤ 9 := by
  obtain ⟨d, hd, e⟩ := Fb.nbrs_iff.mp (show (x.1, x.2) ∈ Fb.nbrs f i from h)
  rw [e]
  rcases hd with ⟨rfl, _⟩ | ⟨rfl, _⟩ | ⟨rfl, _⟩ | ⟨rfl, _⟩ <;> exact wd_le W (by omega)
/-- the ways behind some neighbours -/
def waysOf (f : Sw96.Forest) (b : List Nat) (i : Nat) (l : List (Nat × Nat)) : List (Nat × Nat) := (l.filter fun x => Fb.burns f b x.1).map fun x => (x.1, x.2 * (f.slow i + f.slow x.1))
theorem ways_waysOf (f : Sw96.Forest) (b : List Nat) (i : Nat) : Fb.ways f b i = waysOf f b i (Fb.nbrs f i) := rfl
theorem waysOf_yes {f : Sw96.Forest} {b : List Nat} {i : Nat} {l : List (Nat × Nat)} {x : Nat × Nat} (h : Fb.burns f b x.1 = true) : waysOf f b i (l ++ [x]) = waysOf f b i l ++ [(x.1, x.2 * (f.slow i + f.slow x.1))] := by
  unfold waysOf
  rw [List.filter_append, List.map_append, List.filter_cons, if_pos h]
  rfl
theorem waysOf_no {f : Sw96.Forest} {b : List Nat} {i : Nat} {l : List (Nat × Nat)} {x : Nat × Nat} (h : Fb.burns f b x.1 = false) : waysOf f b i (l ++ [x]) = waysOf f b i l := by
  unfold waysOf
  rw [List.filter_append, List.map_append, List.filter_cons, if_neg (by rw [h]; exact Bool.false_ne_true)]
  exact List.append_nil _
theorem nbrs_len (f : Sw96.Forest) (i : Nat) : (Fb.nbrs f i).length ≤ 4 := by
  unfold Fb.nbrs
  rw [List.length_append, List.length_append, List.length_append]
  split <;> split <;> split <;> split <;> simp
theorem waysOf_len (f : Sw96.Forest) (b : List Nat) (i : Nat) (l : List (Nat × Nat)) : (waysOf f b i l).length ≤ l.length := by
  unfold waysOf
  rw [List.length_map]
  exact List.length_filter_le _ _
theorem take_len {α : Type} (l : List α) (j : Nat) : (l.take j).length ≤ l.length := by
  rw [List.length_take]
  omega
section
variable {P : Program} {w : World} {K : PySem.W.Frag} {mg : Str → Option Value} {base : Heap} {CF CD : Addr}
theorem scWays : FnScope ["self", "place", "breaks", "found", "other", "number"] ["self", "place", "breaks"] (defScope sWays) := ⟨rfl, rfl, rfl, by decide +kernel, rfl, by decide +kernel, by decide +kernel⟩
theorem ok_ways {f : Addr} {fd : FuncData} (F : Fun K "ways_from" "Forest.ways_from" sWays f fd) (T : Txt K mg CF CD) (mN : MCal P w K mg base 2 CF "neighbours" ["self", "place"] (spNbrs K CF)) (mB : MCal P w K mg base 1 CF "burns" ["self", "place", "breaks"] (spBurns K CF)) :
    FnOk P w K mg base CX0 3 f fd ["self", "place", "breaks"] (spWays K CF) := by
  refine F.ok scWays (fun vs H Q E h => ?_) (fun cdv A outer s H vs Q E hr h => ?_)
  · obtain ⟨a, b, f, i, br, rfl, _⟩ := h
    rfl
  · obtain ⟨a, b, f, i, br, rfl, ⟨dx, s, wo, wi, fi, h⟩, W, hi, hb, k⟩ := h
    obtain ⟨fn, fdn, mn, bn, Gn⟩ := mN
    obtain ⟨fb, fdb, mb, bb, Gb⟩ := mB
    have hr1 : Room 1 _ := hr.mono (by decide)
    refine ⟨_, pss_cons (ps_set (i := 3) scWays.nd rfl (Or.inl rfl) (pe_lst pa_nil))
      (pss_cons (ps_for PassesOwn.never rfl (pi_list (pe_meth (pv 0) T.clF mn Gn hr bn .nil pass0 (pa_cons (pv 1) pa_nil))) (pg_tup rfl (pgs_cons (pg_name (i := 4) scWays.nd rfl (Or.inl rfl)) (pgs_cons (pg_name (i := 5) scWays.nd rfl (Or.inl rfl)) pgs_nil)))
        (pss_one (ps_if (pt_val (pe_meth (pv 0) T.clF mb Gb hr1 bb .nil pass0 (pa_cons (pv 4) (pa_cons (pv 2) pa_nil))))
          (pss_one (ps_expr (pe_bm PySem.F.plainAttrs_list PySem.F.slot_list_append PySem.F.type_list_append mt_append (pv 3)
            (pa_cons (pe_tup (pa_cons (pv 4) (pa_cons (pe_op op_mul (pv 5) (pe_op op_add (pe_ix ix_list (pe_fld (pv 0) rfl) (pv 1) (fun _ _ => rfl)) (pe_ix ix_list (pe_fld (pv 0) rfl) (pv 4) (fun _ _ => rfl)))) pa_nil))) pa_nil)))) pss_nil)))
      (pss_one (ps_ret (pv 3)))), ?_⟩
    -- found = []
    refine ⟨by decide, fun p hp => ?_⟩
    have L0 := PL.start hp
    have h0 := h.same L0.same
    -- self.neighbours(place)
    refine ⟨_, rfl, a, dx, _, rfl, h0.ob, fF_nbrs, _, rfl, a, f, i, rfl, ⟨dx, s, wo, wi, fi, h0⟩, W, hi, fun n ns H1 N1 => ?_⟩
    have hnp : n ≠ p := fun e => by
      have := N1.new
      rw [e, upd_same] at this
      cases this
    refine ⟨n, rfl, ⟨_, SqL.of N1.lst⟩, for_list (K := K) (a := n) (xs := ns.map V.ref) (fun j σ H' => ∃ (ts : List Addr) (v w : Option V), σ = [some (.ref a), some (.int (i : Int)), some (.ref b), some (.ref p), v, w] ∧ PL H H' p ts (waysOf f br i ((Fb.nbrs f i).take j)) ∧ H' n = some (.lst (ns.map V.ref)) ∧ PairsAt H' ns (Fb.nbrs f i))
      ⟨[], none, none, rfl, L0.same' N1.same, N1.lst, N1.prs⟩ (fun j σ H' _ ⟨_, _, _, _, _, h, _⟩ => SqL.of h) ?_ ?_⟩
    · rintro j y σ H' hj ⟨ts, v, w, rfl, Lj, hn, prs⟩
      obtain ⟨t, x, rfl, hx, ht⟩ := prs.get hj
      have hj' := h.same Lj.same
      have tk := take_more hx
      have xm : x ∈ Fb.nbrs f i := List.mem_of_getElem? hx
      have xl := Fb.nbrs_lt W hi xm
      have x9 := nbrs_wind W xm
      refine ⟨t, _, rfl, SqT.of ht, rfl, _, _, rfl, _, _, rfl, rfl, ?_⟩
      refine ⟨_, rfl, a, dx, _, rfl, hj'.ob, fF_burns, _, rfl, _, rfl, a, b, f, x.1, br, rfl, ⟨dx, s, wo, wi, fi, hj'⟩, xl, Lj.same _ _ hb, _, rfl, ?_⟩
      cases c : Fb.burns f br x.1 with
      | true =>
        refine iteT ?_
        refine ⟨_, rfl, .inl ⟨rfl, _, SqL.of Lj.lst⟩, _, rfl, _, rfl, _, rfl, a, CF, dx, _, _, rfl, hj'.ob, T.clF, T.nSlow, fF_slow, _, rfl, s, _, _, _, rfl, rfl, SqL.of hj'.sl, atI_nat (nums_at (slow_at hi)),
          _, rfl, a, CF, dx, _, _, rfl, hj'.ob, T.clF, T.nSlow, fF_slow, _, rfl, s, _, _, _, rfl, rfl, SqL.of hj'.sl, atI_nat (nums_at (slow_at xl)), _, _, rfl, rfl, _, _, rfl, rfl, .inl ⟨by omega, by omega⟩, by show 2 ≤ sizeLine; decide, fun t2 ht2 => ?_⟩
        obtain ⟨q1, q2⟩ := Lj.push2 ht2 (x.1, x.2 * (f.slow i + f.slow x.1)) (z1 := (x.1 : Int)) (z2 := (x.2 : Int) * ((f.slow i : Int) + (f.slow x.1 : Int))) rfl (by
          show (x.2 : Int) * ((f.slow i : Int) + (f.slow x.1 : Int)) = ((x.2 * (f.slow i + f.slow x.1) : Nat) : Int)
          rw [Int.natCast_mul, Int.natCast_add])
        refine ⟨p, _, _, rfl, rfl, q1, big _ ?_, ts ++ [t2], _, _, rfl, ?_, ?_, ?_⟩
        · rw [List.length_map, Lj.prs.len]
          have h1 := waysOf_len f br i ((Fb.nbrs f i).take j)
          have h2 := take_len (Fb.nbrs f i) j
          have h3 := nbrs_len f i
          omega
        · rw [tk, waysOf_yes c]
          exact q2
        · rw [upd_ne hnp, upd_ne (ne_of_none hn ht2)]
          exact hn
        · refine prs.mono fun b u e => ?_
          rw [upd_ne (ne_of e Lj.lst (by intro z; cases z)), upd_ne (ne_of_none e ht2)]
          exact e
      | false =>
        refine iteF ⟨ts, _, _, rfl, ?_, hn, prs⟩
        rw [tk, waysOf_no c]
        exact Lj
    · rintro σ H' ⟨ts, v, w, rfl, Lj, hn, prs⟩
      rw [List.length_map, N1.prs.len, List.take_length] at Lj
      exact ⟨_, rfl, k p ts H' Lj⟩

/-- times_of(forest, breaks) -/
def spTimes (K : PySem.W.Frag) (C : Addr) : Sp := fun vs H Q _ => ∃ (a b : Addr) (f : Sw96.Forest) (br : List Nat), vs = [.ref a, .ref b] ∧ ForestAt K C H a f ∧ Fb.Wf f ∧ H b = some (.lst (nums br)) ∧ Fb.Apart f br ∧
  ∀ (p : Addr) (ks : List Nat) (tm : Nat → Nat) (H' : Hp), Same H H' → H p = none → H' p = some (.dK (dct ks (tv tm))) → Fb.Told f br ks tm → Q (.ref p) H'
theorem scTimes : FnScope ["forest", "breaks", "found", "place", "done", "coming", "other", "long", "time"] ["forest", "breaks"] (defScope sTimes) := ⟨rfl, rfl, rfl, by decide +kernel, rfl, by decide +kernel, by decide +kernel⟩
theorem nodup_new {l : List Nat} {j z : Nat} (hd : l.Nodup) (h : l[j]? = some z) : z ∉ l.take j := by
  have h1 : (l.take (j + 1)).Nodup := List.Nodup.sublist (List.take_sublist _ _) hd
  rw [take_more h, List.nodup_append] at h1
  intro hz
  exact h1.2.2 z hz z (List.mem_singleton.mpr rfl) rfl
theorem addK_new {ks : List Nat} {o : Nat} (h : o ∉ ks) : Fb.addK ks o = ks ++ [o] := if_neg h
theorem ok_times {f : Addr} {fd : FuncData} (F : Fun K "times_of" "times_of" sTimes f fd) (T : Txt K mg CF CD) (cN : Cal P w K mg base 1 "nearest" ["times", "done"] spNear) (mW : MCal P w K mg base 3 CF "ways_from" ["self", "place", "breaks"] (spWays K CF)) :
    FnOk P w K mg base CX0 4 f fd ["forest", "breaks"] (spTimes K CF) := by
  refine F.ok scTimes (fun vs H Q E h => ?_) (fun cdv A outer s H vs Q E hr h => ?_)
  · obtain ⟨a, b, f, br, rfl, _⟩ := h
    rfl
  · obtain ⟨a, b, f, br, rfl, ⟨dx, s, wo, wi, fi, h⟩, W, hb, hap, k⟩ := h
    obtain ⟨fn, fdn, gn, kn, bn, Gn⟩ := cN
    obtain ⟨fw, fdw, mw, bw, Gw⟩ := mW
    have hu := hu_of hr
    have hr1 : Room 1 _ := hr.mono (by decide)
    refine ⟨_, pss_cons (ps_set (i := 2) scTimes.nd rfl (Or.inl rfl) pe_dnewK)
      (pss_cons (ps_for PassesOwn.never rfl (pi_list (pe_fld (pv 0) rfl)) (pg_name (i := 3) scTimes.nd rfl (Or.inl rfl)) (pss_one (ps_dput hu (pv 2) (pv 3) pe_int rfl)))
      (pss_cons (ps_set (i := 4) scTimes.nd rfl (Or.inl rfl) pe_dnewK)
      (pss_cons (ps_set (i := 5) scTimes.nd rfl (Or.inl rfl) (pe_call Gn hr1 rfl gn kn bn .nil pass0 (pa_cons (pv 2) (pa_cons (pv 4) pa_nil))))
      (pss_cons (ps_while PassesOwn.never (pt_cmpR (op_neNil hu) (pv 5) (pe_lst pa_nil) (nomark _))
        (pss_cons (ps_set (i := 3) scTimes.nd rfl (Or.inl rfl) (pe_ix ix_list (pv 5) pe_int (fun _ _ => rfl)))
        (pss_cons (ps_dput hu (pv 4) (pv 3) pe_bl rfl)
        (pss_cons (ps_for PassesOwn.never rfl (pi_list (pe_meth (pv 0) T.clF mw Gw hr bw .nil pass0 (pa_cons (pv 3) (pa_cons (pv 1) pa_nil)))) (pg_tup rfl (pgs_cons (pg_name (i := 6) scTimes.nd rfl (Or.inl rfl)) (pgs_cons (pg_name (i := 7) scTimes.nd rfl (Or.inl rfl)) pgs_nil)))
          (pss_cons (ps_set (i := 8) scTimes.nd rfl (Or.inl rfl) (pe_op op_add (pe_dget hu (pv 2) (pv 3) (fun _ _ => rfl)) (pv 7)))
          (pss_one (ps_if (PW.pt (pw_or (pt_cmp (pc_dnotin hu (pv 6) (pv 2)) rfl) (pw_or1 (pt_cmpR op_lt (pv 8) (pe_dget hu (pv 2) (pv 6) (fun _ _ => rfl)) (nomark _)))))
            (pss_one (ps_dput hu (pv 2) (pv 6) (pv 8) rfl)) pss_nil))))
        (pss_one (ps_set (i := 5) scTimes.nd rfl (Or.inl rfl) (pe_call Gn hr1 rfl gn kn bn .nil pass0 (pa_cons (pv 2) (pa_cons (pv 4) pa_nil)))))))))
      (pss_one (ps_ret (pv 2))))))), ?_⟩
    have n25 := W.len
    -- found = {}
    intro fo hfo
    have s0 : Same H (upd H fo (.dK [])) := same_upd (Same.refl H) hfo
    have h0 := h.same s0
    -- for place in forest.fires
    refine ⟨_, rfl, a, CF, dx, _, _, rfl, h0.ob, T.clF, T.nFires, fF_fires, fi, rfl, ⟨_, SqL.of h0.fi⟩, for_list (K := K) (a := fi) (xs := nums f.fires) (fun j σ H' => ∃ v : Option V, σ = [some (.ref a), some (.ref b), some (.ref fo), v, none, none, none, none, none] ∧ Same H H' ∧ H' fo = some (.dK (dct (f.fires.take j) (tv fun _ => 0))))
      ⟨none, rfl, s0, upd_same⟩ (fun j σ H' _ ⟨_, _, s1, _⟩ => SqL.of (s1 _ _ h.fi)) ?_ ?_⟩
    · rintro j y σ H' hj ⟨v, rfl, s1, d1⟩
      obtain ⟨z, hz, rfl⟩ := nums_get hj
      refine ⟨_, rfl, _, rfl, fo, _, rfl, DPut.k (k := Sum.inl (z : Int)) d1 ?_, _, rfl, same_upd s1 hfo, ?_⟩
      · rw [dct_len]
        refine big _ ?_
        have h1 := take_len f.fires j
        have h2 := Fb.nodup_len _ _ W.fnd fun i hi => (W.flt i hi).1
        omega
      · rw [upd_same, dct_put, addK_new (nodup_new W.fnd hz), take_more hz]
        exact congrArg (fun q => some (HO.dK (dct _ q))) (tv_set (fun _ => 0) z 0 |>.trans (congrArg tv (by funext i; unfold Fb.set; split <;> rfl)))
    · rintro σ H1 ⟨v, rfl, s1, d1⟩
      rw [nums_len, List.take_length] at d1
      -- done = {}
      intro don hdon
      have hdon0 : H don = none := s1.free hdon
      have hfd : fo ≠ don := ne_of_none d1 hdon
      have s2 : Same H (upd H1 don (.dK [])) := same_upd s1 hdon0
      have d2 : (upd H1 don (.dK [])) fo = some (.dK (dct f.fires (tv fun _ => 0))) := by
        rw [upd_ne hfd]
        exact d1
      have I0 := Fb.Inv.start W hap
      -- coming = nearest(found, done)
      refine ⟨_, rfl, _, rfl, fo, don, f.fires, [], (fun _ => 0), rfl, d2, upd_same, by have := I0.keys; omega, fun co r H3 s3 hco hr3 R0 => ?_⟩
      -- while coming != []
      refine ⟨fun m σ H' => ∃ (ks ds r : List Nat) (tm : Nat → Nat) (co : Addr) (v3 v6 v7 v8 : Option V), m = f.places.length + 1 - ds.length ∧ σ = [some (.ref a), some (.ref b), some (.ref fo), v3, some (.ref don), some (.ref co), v6, v7, v8] ∧ Same H H' ∧ H' fo = some (.dK (dct ks (tv tm))) ∧ H' don = some (.dK (dct ds dv)) ∧ H' co = some (.lst (nums r)) ∧ Fb.Inv f br ks tm ds ∧ NearR ks tm ds r,
        ⟨_, f.fires, [], r, (fun _ => 0), co, _, _, _, _, rfl, rfl, s2.trans s3, s3 _ _ d2, s3 _ _ upd_same, hr3, I0, R0⟩, ?_⟩
      rintro m σ H4 ⟨ks, ds, r, tm, co, v3, v6, v7, v8, rfl, rfl, s4, d4, e4, c4, I, R⟩
      refine ⟨_, rfl, by decide, fun nl hnl => ?_⟩
      have hnl0 : H nl = none := s4.free hnl
      have s5' : Same H4 (upd H4 nl (.lst [])) := same_upd (Same.refl _) hnl
      have s5 : Same H (upd H4 nl (.lst [])) := s4.trans s5'
      refine ⟨co, nl, _, rfl, rfl, SqL.of (s5' _ _ c4), SqL.of upd_same, _, rfl, ?_⟩
      rcases R with ⟨rfl, hall⟩ | ⟨p, rfl, hp, hpd, hmin⟩
      · refine iteF ?_
        exact ⟨_, rfl, k fo ks tm _ s5 hfo (s5' _ _ d4) (I.told W hall)⟩
      · refine iteT ?_
        have N0 := I.inn hp hpd hmin
        have pl : p < f.places.length := Fb.slow_lt (I.live p hp).1
        refine ⟨fun σ' H' => ∃ (ks ds' r : List Nat) (tm : Nat → Nat) (co : Addr) (v3 v6 v7 v8 : Option V), ds'.length = ds.length + 1 ∧ ds'.length ≤ f.places.length ∧ σ' = [some (.ref a), some (.ref b), some (.ref fo), v3, some (.ref don), some (.ref co), v6, v7, v8] ∧ Same H H' ∧ H' fo = some (.dK (dct ks (tv tm))) ∧ H' don = some (.dK (dct ds' dv)) ∧ H' co = some (.lst (nums r)) ∧ Fb.Inv f br ks tm ds' ∧ NearR ks tm ds' r, ?_, ?_⟩
        · rintro σ' H' ⟨ks, ds', r, tm, co, v3, v6, v7, v8, hl1, hl2, e, rest⟩
          exact ⟨f.places.length + 1 - ds'.length, by omega, ks, ds', r, tm, co, v3, v6, v7, v8, rfl, e, rest⟩
        -- place = coming[0]
        refine ⟨_, rfl, co, _, 0, V.int (p : Int), rfl, rfl, SqL.of (s5' _ _ c4), rfl, ?_⟩
        -- done[place] = True
        refine ⟨_, rfl, _, rfl, don, _, rfl, DPut.k (k := Sum.inl (p : Int)) (s5' _ _ e4) ?_, ?_⟩
        · rw [dct_len]
          exact big _ (by have := I.few; omega)
        rw [dct_put, addK_new hpd, dv_set]
        have s6 : Same H (upd (upd H4 nl (.lst [])) don (.dK (dct (ds ++ [p]) dv))) := same_upd s5 hdon0
        have h6 := h.same s6
        have d6 : (upd (upd H4 nl (.lst [])) don (.dK (dct (ds ++ [p]) dv))) fo = some (.dK (dct ks (tv tm))) := by
          rw [upd_ne hfd]
          exact s5' _ _ d4
        -- for other, long in forest.ways_from(place, breaks)
        refine ⟨_, rfl, a, dx, _, rfl, h6.ob, fF_ways, _, rfl, _, rfl, a, b, f, p, br, rfl, ⟨dx, s, wo, wi, fi, h6⟩, W, pl, s6 _ _ hb, fun n ns H7 N7 => ?_⟩
        have hnf : n ≠ fo := fun e => by
          have := N7.new
          rw [e, d6] at this
          cases this
        refine ⟨n, rfl, ⟨_, SqL.of N7.lst⟩, for_list (K := K) (a := n) (xs := ns.map V.ref) (fun j σ H' => ∃ (ks : List Nat) (tm : Nat → Nat) (v6 v7 v8 : Option V), σ = [some (.ref a), some (.ref b), some (.ref fo), some (.int (p : Int)), some (.ref don), some (.ref co), v6, v7, v8] ∧ Same H H' ∧ H' fo = some (.dK (dct ks (tv tm))) ∧ H' don = some (.dK (dct (ds ++ [p]) dv)) ∧ H' n = some (.lst (ns.map V.ref)) ∧ PairsAt H' ns (Fb.ways f br p) ∧ Fb.Inn f br ks tm ds p ((Fb.ways f br p).take j))
          ⟨ks, tm, _, _, _, rfl, s6.trans N7.same, N7.same _ _ d6, N7.same _ _ upd_same, N7.lst, N7.prs, N0⟩ (fun j σ H' _ ⟨_, _, _, _, _, _, _, _, _, h, _⟩ => SqL.of h) ?_ ?_⟩
        · rintro j y σ H8 hj ⟨ks, tm, v6, v7, v8, rfl, s8, d8, e8, n8, prs, In⟩
          obtain ⟨t, x, rfl, hx, ht⟩ := prs.get hj
          have tk := take_more hx
          have he : Fb.Edge f br p x.1 x.2 := List.mem_of_getElem? hx
          have pks : p ∈ ks := In.sub p (List.mem_append.mpr (.inr (List.mem_singleton.mpr rfl)))
          refine ⟨t, _, rfl, SqT.of ht, rfl, _, _, rfl, _, _, rfl, rfl, ?_⟩
          -- time = found[place] + long
          refine ⟨_, rfl, _, rfl, fo, V.int (tm p : Int), rfl, ?_, _, rfl, _, _, rfl, rfl, ?_⟩
          · have g := DGet.k (k := (Sum.inl (p : Int) : Key)) d8
            rw [dct_in pks] at g
            exact g
          have put : (x.1 ∉ ks ∨ tm p + x.2 < tm x.1) → sDPut (tVar 2) (tVar 6) (tVar 8)
              { nx := fun σ H' => ∃ (ks : List Nat) (tm : Nat → Nat) (v6 v7 v8 : Option V), σ = [some (.ref a), some (.ref b), some (.ref fo), some (.int (p : Int)), some (.ref don), some (.ref co), v6, v7, v8] ∧ Same H H' ∧ H' fo = some (.dK (dct ks (tv tm))) ∧ H' don = some (.dK (dct (ds ++ [p]) dv)) ∧ H' n = some (.lst (ns.map V.ref)) ∧ PairsAt H' ns (Fb.ways f br p) ∧ Fb.Inn f br ks tm ds p ((Fb.ways f br p).take (j + 1)), rt := Q }
              [some (.ref a), some (.ref b), some (.ref fo), some (.int (p : Int)), some (.ref don), some (.ref co), some (.int (x.1 : Int)), some (.int (x.2 : Int)), some (.int ((tm p : Int) + (x.2 : Int)))] H8 := by
            intro ho
            obtain ⟨hne, In2⟩ := In.put W he ho
            have kl : ks.length < sizeLine := big _ (by have := Fb.nodup_len f.places.length _ In.nd (fun i hi => Fb.slow_lt (In.live i hi).1); omega)
            refine ⟨_, rfl, _, rfl, _, rfl, fo, _, rfl, DPut.k (k := Sum.inl (x.1 : Int)) d8 (by rw [dct_len]; exact kl), ?_⟩
            refine ⟨Fb.addK ks x.1, Fb.set tm x.1 (tm p + x.2), _, _, _, rfl, same_upd s8 hfo, ?_, ?_, ?_, ?_, ?_⟩
            · rw [upd_same, dct_put]
              exact congrArg (fun q => some (HO.dK (dct _ q))) (tv_set tm x.1 (tm p + x.2))
            · rw [upd_ne hfd.symm]
              exact e8
            · rw [upd_ne hnf]
              exact n8
            · refine prs.mono fun c u e => ?_
              rw [upd_ne (ne_of e d8 (by intro z; cases z))]
              exact e
            · rw [tk]
              exact In2
          -- other not in found or time < found[other]
          refine ⟨_, rfl, _, rfl, fo, _, rfl, DGet.k (k := Sum.inl (x.1 : Int)) d8, _, rfl, ?_⟩
          by_cases c : x.1 ∈ ks
          · rw [dct_in c]
            refine iteF ?_
            refine ⟨_, rfl, _, rfl, _, rfl, fo, V.int (tm x.1 : Int), rfl, ?_, _, _, rfl, rfl, _, rfl, ?_⟩
            · have g := DGet.k (k := (Sum.inl (x.1 : Int) : Key)) d8
              rw [dct_in c] at g
              exact g
            by_cases lt : tm p + x.2 < tm x.1
            · exact if_true_of (decide_eq_true (by omega)) (put (.inr lt))
            · refine if_false_of (decide_eq_false (by omega)) ?_
              refine ⟨ks, tm, _, _, _, rfl, s8, d8, e8, n8, prs, ?_⟩
              rw [tk]
              exact In.keep c lt
          · rw [dct_out c]
            exact iteT (iteT (put (.inl c)))
        · rintro σ H8 ⟨ks, tm, v6, v7, v8, rfl, s8, d8, e8, n8, prs, In⟩
          rw [List.length_map, N7.prs.len, List.take_length] at In
          have I2 := In.out
          -- coming = nearest(found, done)
          refine ⟨_, rfl, _, rfl, fo, don, ks, ds ++ [p], tm, rfl, d8, e8, by have := I2.keys; omega, fun co r H9 s9 hco hr9 R9 => ?_⟩
          exact ⟨ks, ds ++ [p], r, tm, co, _, _, _, _, by simp, I2.few, rfl, s8.trans s9, s9 _ _ d8, s9 _ _ e8, hr9, I2, R9⟩
end
end Fw

/-! burnt_by, lost_by, guards_of -/
namespace Fw
open PySem PySem.Spec PyProof.Rows L2
theorem filter_yes {α : Type} {p : α → Bool} {l : List α} {x : α} (h : p x = true) : (l ++ [x]).filter p = l.filter p ++ [x] := by
  rw [List.filter_append, List.filter_cons, if_pos h]
  rfl
theorem filter_no {α : Type} {p : α → Bool} {l : List α} {x : α} (h : p x = false) : (l ++ [x]).filter p = l.filter p := by
  rw [List.filter_append, List.filter_cons, if_neg (by rw [h]; exact Bool.false_ne_true)]
  exact List.append_nil _
theorem filter_len {α : Type} (p : α → Bool) (l : List α) : (l.filter p).length ≤ l.length := List.length_filter_le _ _
/-- burnt_by(times, last) -/
def spBurntBy : Sp := fun vs H Q _ => ∃ (a : Addr) (ks : List Nat) (tm : Nat → Nat) (t : Nat), vs = [.ref a, .int (t : Int)] ∧ H a = some (.dK (dct ks (tv tm))) ∧ ks.length < 64 ∧
  ∀ (p : Addr) (L : List Nat) (H' : Hp), L.Perm ks → L.Pairwise (· ≤ ·) → Same H H' → H p = none → H' p = some (.lst (nums (L.filter fun i => decide (tm i ≤ t)))) → Q (.ref p) H'
/-- lost_by(forest, last, breaks) -/
def spLost (K : PySem.W.Frag) (C : Addr) : Sp := fun vs H Q _ => ∃ (a b : Addr) (f : Sw96.Forest) (br : List Nat) (t : Nat), vs = [.ref a, .int (t : Int), .ref b] ∧ ForestAt K C H a f ∧ Fb.Wf f ∧ H b = some (.lst (nums br)) ∧ Fb.Apart f br ∧ (∀ i ∈ br, i < f.places.length) ∧ br.length ≤ 25 ∧
  ∀ H' : Hp, Same H H' → Q (.int (f.lost br t : Nat)) H'
/-- whether a place guards another -/
def gcond (f : Sw96.Forest) (i b : Nat) : Bool := (b != i && !f.fires.contains b) && ((f.comes [b]).getD i none).isNone
theorem guards_gcond (f : Sw96.Forest) (i : Nat) : f.guards i = (List.range f.places.length).filter (gcond f i) := Fb.guards_eq f i
/-- guards_of(forest, place) -/
def spGuardsOf (K : PySem.W.Frag) (C : Addr) : Sp := fun vs H Q _ => ∃ (a : Addr) (f : Sw96.Forest) (i : Nat), vs = [.ref a, .int (i : Int)] ∧ ForestAt K C H a f ∧ Fb.Wf f ∧ i < f.places.length ∧
  ∀ (p : Addr) (H' : Hp), Same H H' → H' p = some (.lst (nums (f.guards i))) → Q (.ref p) H'
section
variable {P : Program} {w : World} {K : PySem.W.Frag} {mg : Str → Option Value} {base : Heap} {CF CD : Addr}
theorem scBurntBy : FnScope ["times", "last", "place"] ["times", "last"] (defScope sBurntBy) := ⟨rfl, rfl, rfl, by decide +kernel, rfl, by decide +kernel, by decide +kernel⟩
theorem ok_burntby {f : Addr} {fd : FuncData} (F : Fun K "burnt_by" "burnt_by" sBurntBy f fd) (T : Txt K mg CF CD) : FnOk P w K mg base CX0 1 f fd ["times", "last"] spBurntBy := by
  refine F.ok scBurntBy (fun vs H Q E h => ?_) (fun cdv A outer s H vs Q E hr h => ?_)
  · obtain ⟨a, ks, tm, t, rfl, _⟩ := h
    rfl
  · obtain ⟨a, ks, tm, t, rfl, ha, h64, k⟩ := h
    have hu := hu_of hr
    refine ⟨_, pss_one (ps_ret (pe_lc (own := [("place", 2)]) (g := gName 2) (by rfl) scBurntBy.nd (pi_list (pe_callB (call_sortedDI rfl) (by rfl) T.sorted (by decide +kernel) (pa_cons (pv 0) pa_nil)))
      (blkOk_by (own := [("place", 2)]) (N := ["times", "last", "place"]) (sc := defScope sBurntBy) (by decide +kernel)) (fun _ _ _ _ _ => pg_name (i := 2) scBurntBy.nd rfl (Or.inl rfl))
      (fun _ _ _ _ _ => pts_one (pt_cmpR op_le (pe_dget hu (pv 0) (pv 2) (fun _ _ => rfl)) (pv 1) (nomark _))) (fun _ _ _ _ _ => pv 2))), ?_⟩
    refine ⟨_, rfl, a, _, ks.map (fun i : Nat => (i : Int)), rfl, .inl ha, dct_keys _ _, by rw [List.length_map]; exact h64, fun ys p perm hs hp => ?_⟩
    obtain ⟨L, rfl, pL⟩ := Fb.ints_keys perm
    have hL := Fb.ints_le hs
    rw [nums_ints]
    have s1 : Same H (upd H p (.lst (nums L))) := same_upd (Same.refl H) hp
    refine ⟨p, rfl, ⟨_, SqL.of upd_same⟩, fun D hD => ?_⟩
    have hD0 : H D = none := s1.free hD
    have hpD : p ≠ D := ne_of_none upd_same hD
    refine lc_list (K := K) (a := p) (xs := nums L) (fun i H' => Same H H' ∧ H' p = some (.lst (nums L)) ∧ H' D = some (.lst (nums ((L.take i).filter fun i => decide (tm i ≤ t)))))
      ⟨same_upd s1 hD0, by rw [upd_ne hpD]; exact upd_same, upd_same⟩ (fun i H' _ ⟨_, h, _⟩ => SqL.of h) ?_ ?_
    · rintro i y H' hi ⟨s2, p2, D2⟩
      obtain ⟨z, hz, rfl⟩ := nums_get hi
      have tk := take_more hz
      have zk : z ∈ ks := pL.mem_iff.mp (List.mem_of_getElem? hz)
      refine ⟨rfl, _, rfl, _, rfl, a, V.int (tm z : Int), rfl, ?_, _, rfl, _, _, rfl, rfl, _, rfl, ?_⟩
      · have g := DGet.k (k := (Sum.inl (z : Int) : Key)) (s2 _ _ ha)
        rw [dct_in zk] at g
        exact g
      by_cases c : tm z ≤ t
      · refine if_true_of (decide_eq_true (by omega)) ?_
        refine ⟨_, rfl, _, D2, ?_, same_upd s2 hD0, by rw [upd_ne hpD]; exact p2, ?_⟩
        · rw [nums_len]
          refine big _ ?_
          have h1 := filter_len (fun i => decide (tm i ≤ t)) (L.take i)
          have h2 := take_len L i
          have h3 := pL.length_eq
          omega
        · rw [upd_same, tk, filter_yes (p := fun i => decide (tm i ≤ t)) (decide_eq_true c), nums_append]
          rfl
      · refine if_false_of (decide_eq_false (by omega)) ⟨s2, p2, ?_⟩
        rw [tk, filter_no (p := fun i => decide (tm i ≤ t)) (decide_eq_false c)]
        exact D2
    · rintro H' ⟨s2, p2, D2⟩
      rw [nums_len, List.take_length] at D2
      exact k D L H' pL hL s2 hD0 D2
theorem scLost : FnScope ["forest", "last", "breaks", "burnt", "place"] ["forest", "last", "breaks"] (defScope sLost) := ⟨rfl, rfl, rfl, by decide +kernel, rfl, by decide +kernel, by decide +kernel⟩
theorem ok_lost {f : Addr} {fd : FuncData} (F : Fun K "lost_by" "lost_by" sLost f fd) (T : Txt K mg CF CD) (cT : Cal P w K mg base 4 "times_of" ["forest", "breaks"] (spTimes K CF)) (cB : Cal P w K mg base 1 "burnt_by" ["times", "last"] spBurntBy) :
    FnOk P w K mg base CX0 5 f fd ["forest", "last", "breaks"] (spLost K CF) := by
  refine F.ok scLost (fun vs H Q E h => ?_) (fun cdv A outer s H vs Q E hr h => ?_)
  · obtain ⟨a, b, f, br, t, rfl, _⟩ := h
    rfl
  · obtain ⟨a, b, f, br, t, rfl, ⟨dx, s, wo, wi, fi, h⟩, W, hb, hap, hlt, h25, k⟩ := h
    obtain ⟨ft, fdt, gt, kt, bt, Gt⟩ := cT
    obtain ⟨fb, fdb, gb, kb, bb, Gb⟩ := cB
    have hr1 : Room 1 _ := hr.mono (by decide)
    refine ⟨_, pss_cons (ps_set (i := 3) scLost.nd rfl (Or.inl rfl) (pe_call Gb hr1 rfl gb kb bb .nil pass0 (pa_cons (pe_call Gt hr rfl gt kt bt .nil pass0 (pa_cons (pv 0) (pa_cons (pv 2) pa_nil))) (pa_cons (pv 1) pa_nil))))
      (pss_one (ps_ret (pe_callB (cr_sum rfl) (by rfl) T.sum (by decide +kernel) (pa_cons (pe_lc (own := [("place", 4)]) (g := gName 4) (tt := tYes) (te := tOp (rIxL K) (tFld K (tVar 0) "worths") (tVar 4)) (by rfl) scLost.nd (pi_list (pe_op op_cat (pv 3) (pv 2)))
        (blkOk_by (own := [("place", 4)]) (N := ["forest", "last", "breaks", "burnt", "place"]) (sc := defScope sLost) (by decide +kernel)) (fun _ _ _ _ _ => pg_name (i := 4) scLost.nd rfl (Or.inl rfl))
        (fun _ _ _ _ _ => pts_nil) (fun _ _ _ _ _ => by exact pe_ix ix_list (pe_fld (pv 0) rfl) (pv 4) (fun _ _ => rfl))) pa_nil)))), ?_⟩
    have n25 := W.len
    refine ⟨_, rfl, _, rfl, a, b, f, br, rfl, ⟨dx, s, wo, wi, fi, h⟩, W, hb, hap, fun d ks tm H1 s1 hd d1 To => ?_⟩
    have kl : ks.length ≤ f.places.length := Fb.nodup_len _ _ To.nd To.lt
    refine ⟨_, rfl, d, ks, tm, t, rfl, d1, by omega, fun u L H2 pL hL s2 hu u2 => ?_⟩
    rw [To.burnt hL pL] at u2
    have s3 : Same H H2 := s1.trans s2
    have bl : (f.burnt br t).length ≤ f.places.length := by
      have := filter_len (fun i => ((f.comes br).getD i none).any fun x => decide (x ≤ t)) (List.range f.places.length)
      rw [List.length_range] at this
      exact this
    -- burnt + breaks
    refine ⟨_, rfl, _, rfl, u, b, _, _, rfl, rfl, u2, s3 _ _ hb, ?_, fun q hq => ?_⟩
    · rw [nums_len, nums_len]
      exact Nat.le_of_lt (big _ (by omega))
    rw [← nums_append]
    have hq0 : H q = none := s3.free hq
    have s4 : Same H (upd H2 q (.lst (nums (f.burnt br t ++ br)))) := same_upd s3 hq0
    refine ⟨q, rfl, ⟨_, SqL.of upd_same⟩, fun D hD => ?_⟩
    have hD0 : H D = none := s4.free hD
    have hqD : q ≠ D := ne_of_none upd_same hD
    refine lc_list (K := K) (a := q) (xs := nums (f.burnt br t ++ br)) (fun i H' => Same H H' ∧ H' q = some (.lst (nums (f.burnt br t ++ br))) ∧ H' D = some (.lst (nums (((f.burnt br t ++ br).take i).map (Fb.wo f)))))
      ⟨same_upd s4 hD0, by rw [upd_ne hqD]; exact upd_same, upd_same⟩ (fun i H' _ ⟨_, h, _⟩ => SqL.of h) ?_ ?_
    · rintro i y H' hi ⟨s5, q5, D5⟩
      obtain ⟨z, hz, rfl⟩ := nums_get hi
      have tk := take_more hz
      have zl : z < f.places.length := by
        rcases List.mem_append.mp (List.mem_of_getElem? hz) with hm | hm
        · exact List.mem_range.mp (List.mem_filter.mp hm).1
        · exact hlt z hm
      have h5 := h.same s5
      refine ⟨rfl, ?_⟩
      unfold tYes
      refine iteT ?_
      refine ⟨_, rfl, a, CF, dx, _, _, rfl, h5.ob, T.clF, T.nWorths, fF_worths, _, rfl, wo, _, _, _, rfl, rfl, SqL.of h5.wo, atI_nat (nums_at (worth_at zl)), _, D5, ?_, same_upd s5 hD0, by rw [upd_ne hqD]; exact q5, ?_⟩
      · rw [nums_len, List.length_map]
        refine big _ ?_
        have h2 := take_len (f.burnt br t ++ br) i
        rw [List.length_append] at h2
        omega
      · rw [upd_same, tk, List.map_append, nums_append]
        rfl
    · rintro H' ⟨s5, q5, D5⟩
      rw [nums_len, List.take_length, ← nums_ints] at D5
      refine ⟨D, _, rfl, SqL.of D5, ?_⟩
      rw [Fb.sum_ints, ← Fb.lost_sum]
      exact k H' s5
theorem scGuardsOf : FnScope ["forest", "place", "found", "other"] ["forest", "place"] (defScope sGuardsOf) := ⟨rfl, rfl, rfl, by decide +kernel, rfl, by decide +kernel, by decide +kernel⟩
theorem apart_one {f : Sw96.Forest} {j : Nat} (h : j ∉ f.fires) : Fb.Apart f [j] := fun i hi hm => by
  rw [List.mem_singleton.mp hm] at hi
  exact h hi
theorem ok_guardsof {f : Addr} {fd : FuncData} (F : Fun K "guards_of" "guards_of" sGuardsOf f fd) (T : Txt K mg CF CD) (cT : Cal P w K mg base 4 "times_of" ["forest", "breaks"] (spTimes K CF)) (mS : MCal P w K mg base 1 CF "size" ["self"] (spSize K CF)) :
    FnOk P w K mg base CX0 5 f fd ["forest", "place"] (spGuardsOf K CF) := by
  refine F.ok scGuardsOf (fun vs H Q E h => ?_) (fun cdv A outer s H vs Q E hr h => ?_)
  · obtain ⟨a, f, i, rfl, _⟩ := h
    rfl
  · obtain ⟨a, f, i, rfl, ⟨dx, s, wo, wi, fi, h⟩, W, hi, k⟩ := h
    obtain ⟨ft, fdt, gt, kt, bt, Gt⟩ := cT
    obtain ⟨fs, fds, ms, bs, Gs⟩ := mS
    have hu := hu_of hr
    have hr1 : Room 1 _ := hr.mono (by decide)
    refine ⟨_, pss_cons (ps_set (i := 2) scGuardsOf.nd rfl (Or.inl rfl) (pe_lst pa_nil))
      (pss_cons (ps_for PassesOwn.never rfl (pi_range1 rfl T.range (pa_cons (pe_meth0 (pv 0) T.clF ms Gs hr1 bs .nil pass0) pa_nil)) (pg_name (i := 3) scGuardsOf.nd rfl (Or.inl rfl))
        (pss_one (ps_if (PW.pt (pw_and (pt_cmpR op_ne (pv 3) (pv 1) (nomark _)) (pw_and (pt_cmpR op_notIn_seq (pv 3) (pe_fld (pv 0) rfl) rfl)
            (pw_and1 (pt_cmp (pc_dnotin hu (pv 1) (pe_call Gt hr rfl gt kt bt .nil pass0 (pa_cons (pv 0) (pa_cons (pe_lst (pa_cons (pv 3) pa_nil)) pa_nil)))) rfl)))))
          (pss_one (ps_expr (pe_bm PySem.F.plainAttrs_list PySem.F.slot_list_append PySem.F.type_list_append mt_append (pv 2) (pa_cons (pv 3) pa_nil)))) pss_nil)))
      (pss_one (ps_ret (pv 2)))), ?_⟩
    have n25 := W.len
    refine ⟨by decide, fun p hp => ?_⟩
    have s1 : Same H (upd H p (.lst [])) := same_upd (Same.refl H) hp
    have h1 := h.same s1
    refine ⟨_, rfl, a, dx, _, rfl, h1.ob, fF_size, a, f, rfl, ⟨dx, s, wo, wi, fi, h1⟩, _, rfl, by omega, by omega, ?_⟩
    refine for_range (lo := 0) (fun j σ H' => ∃ v : Option V, σ = [some (.ref a), some (.int (i : Int)), some (.ref p), v] ∧ Same H H' ∧ H' p = some (.lst (nums ((List.range j).filter (gcond f i)))))
      ⟨none, rfl, s1, upd_same⟩ ?_ ?_
    · rintro j σ H2 hj ⟨v, rfl, s2, p2⟩
      rw [Int.toNat_natCast] at hj
      have h2 := h.same s2
      have ej : (0 : Int) + (j : Int) = (j : Int) := by omega
      rw [ej]
      refine ⟨_, rfl, _, rfl, rfl, _, rfl, ?_⟩
      have no : ∀ H3 : Hp, Same H H3 → H3 p = some (.lst (nums ((List.range j).filter (gcond f i)))) → gcond f i j = false →
          ∃ v : Option V, [some (.ref a), some (.int (i : Int)), some (.ref p), some (.int (j : Int))] = [some (.ref a), some (.int (i : Int)), some (.ref p), v] ∧ Same H H3 ∧ H3 p = some (.lst (nums ((List.range (j + 1)).filter (gcond f i)))) := by
        intro H3 s3 p3 hc
        refine ⟨_, rfl, s3, ?_⟩
        rw [List.range_succ, filter_no hc]
        exact p3
      by_cases c1 : j = i
      · refine if_false_of (by rw [c1]; simp) (iteF (no H2 s2 p2 (by unfold gcond; rw [c1]; simp)))
      · refine if_true_of (by simpa using fun e => c1 (by omega)) ?_
        refine ⟨_, rfl, _, rfl, a, CF, dx, _, _, rfl, h2.ob, T.clF, T.nFires, fF_fires, fi, _, rfl, .inl (SqL.of h2.fi), rfl, nums_flat _, _, rfl, ?_⟩
        rw [if_pos rfl, nums_in]
        by_cases c2 : j ∈ f.fires
        · have e2 : f.fires.contains j = true := List.contains_iff_mem.mpr c2
          rw [e2]
          exact iteF (iteF (no H2 s2 p2 (by unfold gcond; rw [e2]; simp)))
        · have e2 : f.fires.contains j = false := by
            rw [← Bool.not_eq_true, List.contains_iff_mem]
            exact c2
          rw [e2]
          refine iteT ?_
          refine ⟨_, rfl, _, rfl, _, rfl, by show 1 ≤ sizeLine; decide, fun b hb => ?_⟩
          have hb0 : H b = none := s2.free hb
          have s3' : Same H2 (upd H2 b (.lst [V.int (j : Int)])) := same_upd (Same.refl _) hb
          have s3 : Same H (upd H2 b (.lst [V.int (j : Int)])) := s2.trans s3'
          refine ⟨a, b, f, [j], rfl, ⟨dx, s, wo, wi, fi, h.same s3⟩, W, by rw [upd_same]; rfl, apart_one c2, fun d ks tm H4 s4 hd d4 To => ?_⟩
          have s5 : Same H H4 := s3.trans s4
          have p5 := s4 _ _ (s3' _ _ p2)
          refine ⟨d, _, rfl, DGet.k (k := Sum.inl (i : Int)) d4, _, rfl, ?_⟩
          have en := To.none_iff hi
          by_cases c3 : i ∈ ks
          · rw [dct_in c3]
            rw [decide_eq_false (by simpa using c3)] at en
            exact iteF (no H4 s5 p5 (by unfold gcond; rw [en]; simp))
          · rw [dct_out c3]
            rw [decide_eq_true c3] at en
            refine iteT ?_
            refine ⟨_, rfl, .inl ⟨rfl, _, SqL.of p5⟩, _, rfl, p, _, _, rfl, rfl, p5, ?_, _, rfl, same_upd s5 hp, ?_⟩
            · rw [nums_len]
              refine big _ ?_
              have q1 := filter_len (gcond f i) (List.range j)
              rw [List.length_range] at q1
              omega
            · have hc : gcond f i j = true := by
                unfold gcond
                rw [en, e2]
                simp [c1]
              rw [upd_same, List.range_succ, filter_yes hc, nums_append]
              rfl
    · rintro σ H' ⟨v, rfl, s2, p2⟩
      rw [Int.toNat_natCast, ← guards_gcond] at p2
      exact ⟨_, rfl, k p H' s2 p2⟩
end
end Fw

/-! sets_of, best_of -/
namespace Fw
open PySem PySem.Spec PyProof.Rows L2
/-- rows that stand at addresses -/
def RowsAt (H : Hp) : List Addr → List (List Nat) → Prop
  | [], [] => True
  | a :: as, r :: rs => H a = some (.lst (nums r)) ∧ RowsAt H as rs
  | _, _ => False
theorem RowsAt.mono {H H' : Hp} : ∀ {as : List Addr} {rs : List (List Nat)}, RowsAt H as rs → (∀ a ∈ as, ∀ o, H a = some o → H' a = some o) → RowsAt H' as rs
  | [], [], _, _ => trivial
  | a :: _, _ :: _, h, k => ⟨k a List.mem_cons_self _ h.1, RowsAt.mono h.2 fun b hb => k b (List.mem_cons_of_mem _ hb)⟩
  | [], _ :: _, h, _ => h.elim
  | _ :: _, [], h, _ => h.elim
theorem RowsAt.append {H : Hp} : ∀ {as bs : List Addr} {rs ss : List (List Nat)}, RowsAt H as rs → RowsAt H bs ss → RowsAt H (as ++ bs) (rs ++ ss)
  | [], _, [], _, _, h => h
  | _ :: _, _, _ :: _, _, h, k => ⟨h.1, RowsAt.append h.2 k⟩
  | [], _, _ :: _, _, h, _ => h.elim
  | _ :: _, _, [], _, h, _ => h.elim
theorem RowsAt.len {H : Hp} : ∀ {as : List Addr} {rs : List (List Nat)}, RowsAt H as rs → as.length = rs.length
  | [], [], _ => rfl
  | _ :: _, _ :: _, h => congrArg (· + 1) (RowsAt.len h.2)
  | [], _ :: _, h => h.elim
  | _ :: _, [], h => h.elim
theorem RowsAt.get {H : Hp} : ∀ {as : List Addr} {rs : List (List Nat)} {k : Nat} {v : V}, RowsAt H as rs → (as.map V.ref)[k]? = some v → ∃ a r, v = .ref a ∧ a ∈ as ∧ rs[k]? = some r ∧ H a = some (.lst (nums r))
  | [], [], k, v, _, e => by
    simp at e
  | a :: _, r :: _, 0, v, h, e => ⟨a, r, (Option.some.inj e).symm, List.mem_cons_self, rfl, h.1⟩
  | _ :: _, _ :: _, k + 1, v, h, e => by
    obtain ⟨a, r, e1, e2, e3, e4⟩ := RowsAt.get (k := k) h.2 e
    exact ⟨a, r, e1, List.mem_cons_of_mem _ e2, e3, e4⟩
  | [], _ :: _, _, _, h, _ => h.elim
  | _ :: _, [], _, _, h, _ => h.elim
/-- a list D of rows, new since H -/
structure RL (H H' : Hp) (D : Addr) (as : List Addr) (rows : List (List Nat)) : Prop where
  same : Same H H'
  new : H D = none
  lst : H' D = some (.lst (as.map V.ref))
  rows : RowsAt H' as rows
  fresh : ∀ a ∈ as, H a = none ∧ a ≠ D
theorem RL.start {H H' : Hp} {p : Addr} (s : Same H H') (hp : H' p = none) : RL H (upd H' p (.lst [])) p [] [] :=
  ⟨same_upd s (s.free hp), s.free hp, upd_same, trivial, fun a ha => by cases ha⟩
theorem RL.grow {H H' H2 : Hp} {D : Addr} {as : List Addr} {rows : List (List Nat)} (h : RL H H' D as rows) (s : Same H' H2) : RL H H2 D as rows :=
  ⟨h.same.trans s, h.new, s _ _ h.lst, h.rows.mono fun _ _ _ e => s _ _ e, h.fresh⟩
/-- rows that stand elsewhere are joined -/
theorem RL.join {H H' : Hp} {D : Addr} {as bs : List Addr} {rows ss : List (List Nat)} (h : RL H H' D as rows) (hb : RowsAt H' bs ss) (hf : ∀ b ∈ bs, H b = none ∧ b ≠ D) :
    RL H (upd H' D (.lst (as.map V.ref ++ bs.map V.ref))) D (as ++ bs) (rows ++ ss) := by
  refine ⟨same_upd h.same h.new, h.new, by rw [upd_same, List.map_append], RowsAt.append (h.rows.mono fun a ha o e => ?_) (hb.mono fun a ha o e => ?_), fun a ha => ?_⟩
  · rw [upd_ne (h.fresh a ha).2]
    exact e
  · rw [upd_ne (hf a ha).2]
    exact e
  · rcases List.mem_append.mp ha with ha | ha
    · exact h.fresh a ha
    · exact hf a ha
theorem RL.one {H H' : Hp} {D n : Addr} {as : List Addr} {rows : List (List Nat)} (h : RL H H' D as rows) {r : List Nat} (hn : H' n = some (.lst (nums r))) (hf : H n = none ∧ n ≠ D) :
    RL H (upd H' D (.lst (as.map V.ref ++ [V.ref n]))) D (as ++ [n]) (rows ++ [r]) :=
  h.join (bs := [n]) (ss := [r]) ⟨hn, trivial⟩ fun b hb => by
    rw [List.mem_singleton.mp hb]
    exact hf
theorem ext_yes {l row : List Nat} {z : Nat} (h : row = [] ∨ row.getLast?.getD 0 < z) : Fb.ext (l ++ [z]) row = Fb.ext l row ++ [row ++ [z]] := by
  unfold Fb.ext
  rw [filter_yes (p := fun p => decide (row = [] ∨ row.getLast?.getD 0 < p)) (decide_eq_true h), List.map_append]
  rfl
theorem ext_no {l row : List Nat} {z : Nat} (h : ¬ (row = [] ∨ row.getLast?.getD 0 < z)) : Fb.ext (l ++ [z]) row = Fb.ext l row := by
  unfold Fb.ext
  rw [filter_no (p := fun p => decide (row = [] ∨ row.getLast?.getD 0 < p)) (decide_eq_false h)]
theorem ext_len (l row : List Nat) : (Fb.ext l row).length ≤ l.length := by
  unfold Fb.ext
  rw [List.length_map]
  exact List.length_filter_le _ _
theorem snoc_last {row : List Nat} (h : row ≠ []) : ∃ r z, row = r ++ [z] ∧ row.getLast?.getD 0 = z :=
  ⟨row.dropLast, row.getLast h, (List.dropLast_concat_getLast h).symm, by rw [List.getLast?_eq_some_getLast h]; rfl⟩
theorem flat_len {α β : Type} (g : α → List β) (l : List α) (j : Nat) : ((l.take j).flatMap g).length ≤ (l.flatMap g).length := by
  conv => rhs; rw [← List.take_append_drop j l, List.flatMap_append, List.length_append]
  exact Nat.le_add_right _ _
theorem pow26 {n k : Nat} (hn : n ≤ 25) (hk : k ≤ 2) : (n + 1) ^ k ≤ 676 := by
  have h1 : (n + 1) ^ k ≤ 26 ^ k := Nat.pow_le_pow_left (by omega) k
  have h2 : 26 ^ k ≤ 26 ^ 2 := Nat.pow_le_pow_right (by omega) hk
  omega
theorem choose_le {l : List Nat} {k : Nat} (hn : l.length ≤ 25) (hk : k ≤ 2) : (Sw96.choose k l).length ≤ 676 := Nat.le_trans (Fb.choose_len k l) (pow26 hn hk)
/-- sets_of(places, size) -/
def spSets : Sp := fun vs H Q _ => ∃ (a : Addr) (pl : List Nat) (k : Nat), vs = [.ref a, .int (k : Int)] ∧ H a = some (.lst (nums pl)) ∧ Fb.Rising pl ∧ pl.length ≤ 25 ∧ k ≤ 2 ∧
  ∀ (p : Addr) (as : List Addr) (H' : Hp), RL H H' p as (Sw96.choose k pl) → Q (.ref p) H'
section
variable {P : Program} {w : World} {K : PySem.W.Frag} {mg : Str → Option Value} {base : Heap} {CF CD : Addr}
theorem scSets : FnScope ["places", "size", "found", "turn", "longer", "row", "place"] ["places", "size"] (defScope sSets) := ⟨rfl, rfl, rfl, by decide +kernel, rfl, by decide +kernel, by decide +kernel⟩
theorem ok_sets {f : Addr} {fd : FuncData} (F : Fun K "sets_of" "sets_of" sSets f fd) (T : Txt K mg CF CD) : FnOk P w K mg base CX0 1 f fd ["places", "size"] spSets := by
  refine F.ok scSets (fun vs H Q E h => ?_) (fun cdv A outer s H vs Q E hr h => ?_)
  · obtain ⟨a, pl, k, rfl, _⟩ := h
    rfl
  · obtain ⟨a, pl, sz, rfl, ha, hri, h25, hsz, k⟩ := h
    have hu := hu_of hr
    refine ⟨_, pss_cons (ps_set (i := 2) scSets.nd rfl (Or.inl rfl) (pe_lst (pa_cons (pe_lst pa_nil) pa_nil)))
      (pss_cons (ps_for PassesOwn.never rfl (pi_range1 rfl T.range (pa_cons (pv 1) pa_nil)) (pg_name (i := 3) scSets.nd rfl (Or.inl rfl))
        (pss_cons (ps_set (i := 4) scSets.nd rfl (Or.inl rfl) (pe_lst pa_nil))
        (pss_cons (ps_for PassesOwn.never rfl (pi_list (pv 2)) (pg_name (i := 5) scSets.nd rfl (Or.inr rfl))
          (pss_one (ps_expr (pe_bm PySem.F.plainAttrs_list PySem.F.slot_list_extend PySem.F.type_list_extend mt_extend (pv 4)
            (pa_cons (pe_lc (own := [("place", 6)]) (g := gName 6) (tt := tOr (tTest (tOp (rEqNil K) (tVar 5) (tLst tNil))) (tTest (tOp (rI0 fun i j => .bl (decide (j < i))) (tVar 6) (tOp (rIxL K) (tVar 5) (tUn (rU fun i => .int (-i)) (tC (.int 1)))))))
              (te := tOp rCat (tVar 5) (tLst (tCons (tVar 6) tNil))) (by rfl) scSets.nd (pi_list (pv 0))
              (blkOk_by (own := [("place", 6)]) (N := ["places", "size", "found", "turn", "longer", "row", "place"]) (sc := defScope sSets) (by decide +kernel)) (fun _ _ _ _ _ => pg_name (i := 6) scSets.nd rfl (Or.inl rfl))
              (fun _ _ _ _ _ => pts_one (PW.pt (pw_or (by exact pt_cmpR (op_eqNil hu) (pv 5) (pe_lst pa_nil) (nomark _)) (pw_or1 (by exact pt_cmpR op_gt (pv 6) (pe_ix ix_list (pv 5) (pe_un un_neg pe_int) (fun _ _ => rfl)) (nomark _))))))
              (fun _ _ _ _ _ => by exact pe_op op_cat (pv 5) (pe_lst (pa_cons (pv 6) pa_nil)))) pa_nil)))))
        (pss_one (ps_set (i := 2) scSets.nd rfl (Or.inl rfl) (pv 4))))))
      (pss_one (ps_ret (pv 2)))), ?_⟩
    -- found = [[]]
    refine ⟨by decide, fun e he => ⟨by show 1 ≤ sizeLine; decide, fun fo hfo => ?_⟩⟩
    have R0 : RL H (upd (upd H e (.lst [])) fo (.lst [V.ref e])) fo [e] (Sw96.choose 0 pl) := by
      have s1 : Same H (upd H e (.lst [])) := same_upd (Same.refl H) he
      have hef : e ≠ fo := ne_of_none upd_same hfo
      refine ⟨same_upd s1 (s1.free hfo), s1.free hfo, upd_same, ?_, fun a ha => ?_⟩
      · rw [Fb.choose_zero]
        exact ⟨by rw [upd_ne hef, upd_same]; rfl, trivial⟩
      · rw [List.mem_singleton.mp ha]
        exact ⟨he, hef⟩
    -- for turn in range(size)
    refine ⟨_, rfl, _, rfl, by omega, by omega, ?_⟩
    refine for_range (lo := 0) (fun t σ H' => ∃ (fo : Addr) (as : List Addr) (v3 v4 v5 : Option V), σ = [some (.ref a), some (.int (sz : Int)), some (.ref fo), v3, v4, v5, none] ∧ RL H H' fo as (Sw96.choose t pl)) ⟨fo, [e], _, _, _, rfl, R0⟩ ?_ ?_
    · rintro t σ H1 ht ⟨fo, fas, v3, v4, v5, rfl, R1⟩
      rw [Int.toNat_natCast] at ht
      have hch := choose_le (k := t + 1) h25 (by omega)
      rw [Fb.choose_succ t pl hri] at hch
      -- longer = []
      refine ⟨by decide, fun lo hlo => ?_⟩
      have s1 : Same H1 (upd H1 lo (.lst [])) := same_upd (Same.refl H1) hlo
      have R2 := R1.grow s1
      have hfl : fo ≠ lo := ne_of_none R1.lst hlo
      have hfs : ∀ b ∈ fas, b ≠ lo := fun b hb z => by
        have h1 : ∃ o, H1 b = some o := by
          obtain ⟨i, hi⟩ := List.getElem?_of_mem hb
          obtain ⟨c, r, e1, _, _, e4⟩ := R1.rows.get (k := i) (v := V.ref b) (by rw [List.getElem?_map, hi]; rfl)
          cases e1
          exact ⟨_, e4⟩
        obtain ⟨o, ho⟩ := h1
        rw [z, hlo] at ho
        cases ho
      -- for row in found
      refine ⟨_, rfl, fo, rfl, ⟨_, SqL.of R2.lst⟩, for_list (K := K) (a := fo) (xs := fas.map V.ref) (fun j σ H' => ∃ (las : List Addr) (v5 : Option V), σ = [some (.ref a), some (.int (sz : Int)), some (.ref fo), some (.int (0 + (t : Int))), some (.ref lo), v5, none] ∧ RL H H' lo las (((Sw96.choose t pl).take j).flatMap (Fb.ext pl)) ∧ H' fo = some (.lst (fas.map V.ref)) ∧ RowsAt H' fas (Sw96.choose t pl))
        ⟨[], _, rfl, RL.start R1.same hlo, R2.lst, R2.rows⟩ (fun j σ H' _ ⟨_, _, _, _, h, _⟩ => SqL.of h) ?_ ?_⟩
      · rintro j y σ H2 hj ⟨las, v5, rfl, Rl, f2, rows2⟩
        obtain ⟨ra, row, rfl, ram, hrow, hra⟩ := rows2.get hj
        have tk := take_more hrow
        have hll : (((Sw96.choose t pl).take (j + 1)).flatMap (Fb.ext pl)).length ≤ 676 := Nat.le_trans (flat_len _ _ _) hch
        rw [tk, List.flatMap_append, List.length_append] at hll
        have eone : [row].flatMap (Fb.ext pl) = Fb.ext pl row := by simp
        rw [eone] at hll
        -- longer.extend([..])
        refine ⟨_, rfl, .inl ⟨rfl, _, SqL.of Rl.lst⟩, _, rfl, a, rfl, ⟨_, SqL.of (Rl.same _ _ ha)⟩, fun D hD => ?_⟩
        refine lc_list (K := K) (a := a) (xs := nums pl) (fun i H' => ∃ as, RL H2 H' D as (Fb.ext (pl.take i) row)) ⟨[], RL.start (Same.refl H2) hD⟩ (fun i H' _ ⟨_, R⟩ => SqL.of ((Rl.same.trans R.same) _ _ ha)) ?_ ?_
        · rintro i y H3 hi ⟨as, R3⟩
          obtain ⟨z, hz, rfl⟩ := nums_get hi
          have tk3 := take_more hz
          have hra3 := R3.same _ _ hra
          -- row == []
          refine ⟨rfl, _, rfl, by decide, fun e he => ?_⟩
          have s4 : Same H3 (upd H3 e (.lst [])) := same_upd (Same.refl H3) he
          have R4 := R3.grow s4
          refine ⟨ra, e, _, rfl, rfl, SqL.of (s4 _ _ hra3), SqL.of upd_same, _, rfl, ?_⟩
          have more : (row = [] ∨ row.getLast?.getD 0 < z) → tOp rCat (tVar 5) (tLst (tCons (tVar 6) tNil)) [some (.ref a), some (.int (sz : Int)), some (.ref fo), some (.int (0 + (t : Int))), some (.ref lo), some (.ref ra), some (.int (z : Int))] (upd H3 e (.lst [])) fun y H4 =>
              ∃ acc, H4 D = some (.lst acc) ∧ acc.length < sizeLine ∧ ∃ as, RL H2 (upd H4 D (.lst (acc ++ [y]))) D as (Fb.ext (pl.take (i + 1)) row) := by
            intro hc
            refine ⟨_, rfl, _, rfl, by show 1 ≤ sizeLine; decide, fun o ho => ?_⟩
            have s5 : Same (upd H3 e (.lst [])) (upd (upd H3 e (.lst [])) o (.lst [V.int (z : Int)])) := same_upd (Same.refl _) ho
            have R5 := R4.grow s5
            refine ⟨ra, o, _, _, rfl, rfl, s5 _ _ (s4 _ _ hra3), upd_same, ?_, fun n hn => ?_⟩
            · rw [nums_len]
              refine Nat.le_of_lt (big _ ?_)
              have h1 := Fb.choose_mem (List.mem_of_getElem? hrow)
              rw [h1.1]
              show t + 1 ≤ 1000000
              omega
            have s6 : Same (upd (upd H3 e (.lst [])) o (.lst [V.int (z : Int)])) (upd (upd (upd H3 e (.lst [])) o (.lst [V.int (z : Int)])) n (.lst (nums row ++ [V.int (z : Int)]))) := same_upd (Same.refl _) hn
            have R6 := R5.grow s6
            refine ⟨_, R6.lst, ?_, as ++ [n], ?_⟩
            · rw [List.length_map, R6.rows.len]
              refine big _ ?_
              have h1 := ext_len (pl.take i) row
              have h2 := take_len pl i
              omega
            · rw [tk3, ext_yes hc]
              refine R6.one ?_ ⟨R5.same.free hn, fun z => ?_⟩
              · rw [upd_same, nums_append]
                rfl
              · rw [z, R5.lst] at hn
                cases hn
          by_cases c : row = []
          · subst c
            exact iteT (iteT (more (.inl rfl)))
          · have ec : (nums row).isEmpty = false := by
              cases row with
              | nil => exact absurd rfl c
              | cons _ _ => rfl
            rw [ec]
            refine iteF ?_
            obtain ⟨r', l, er, el⟩ := snoc_last c
            -- place > row[-1]
            refine ⟨_, rfl, _, rfl, _, rfl, ra, _, -1, V.int (l : Int), rfl, rfl, SqL.of (s4 _ _ hra3), ?_, _, _, rfl, rfl, _, rfl, ?_⟩
            · rw [er, nums_append]
              exact atI_last _ _
            by_cases lt : l < z
            · refine if_true_of (decide_eq_true (by omega)) (more (.inr ?_))
              rw [el]
              exact lt
            · refine if_false_of (decide_eq_false (by omega)) ⟨as, ?_⟩
              rw [tk3, ext_no]
              · exact R4
              · rw [el]
                rintro (q | q)
                · exact c q
                · exact lt q
        · rintro H3 ⟨as, R3⟩
          rw [nums_len, List.take_length] at R3
          have hD0 : H2 D = none := hD
          -- extend
          have Rl3 := Rl.grow R3.same
          have hlas : ((las.map V.ref).length + (as.map V.ref).length) ≤ sizeLine := by
            rw [List.length_map, List.length_map, Rl.rows.len, R3.rows.len]
            exact Nat.le_of_lt (big _ (by omega))
          refine ⟨lo, D, _, _, rfl, rfl, Rl3.lst, R3.lst, hlas, las ++ as, _, rfl, ?_, ?_, ?_⟩
          · rw [tk, List.flatMap_append, eone]
            refine Rl3.join R3.rows fun b hb => ⟨Rl.same.free (R3.fresh b hb).1, fun z => ?_⟩
            have := (R3.fresh b hb).1
            rw [z, Rl.lst] at this
            cases this
          · rw [upd_ne hfl]
            exact R3.same _ _ f2
          · refine (rows2.mono fun b hb o e => R3.same _ _ e).mono fun b hb o e => ?_
            rw [upd_ne (hfs b hb)]
            exact e
      · rintro σ H2 ⟨las, v5, rfl, Rl, f2, rows2⟩
        rw [List.length_map, rows2.len, List.take_length, ← Fb.choose_succ t pl hri] at Rl
        -- found = longer
        exact ⟨_, rfl, lo, las, _, _, _, rfl, Rl⟩
    · rintro σ H' ⟨fo, as, v3, v4, v5, rfl, R⟩
      rw [Int.toNat_natCast] at R
      exact ⟨_, rfl, k fo as H' R⟩
end
end Fw

/-! best_of -/
namespace Fw
open PySem PySem.Spec PyProof.Rows L2
/-- best_of(forest, most, last) -/
def spBestOf (K : PySem.W.Frag) (C : Addr) : Sp := fun vs H Q _ => ∃ (a : Addr) (f : Sw96.Forest) (most t : Nat), vs = [.ref a, .int (most : Int), .int (t : Int)] ∧ ForestAt K C H a f ∧ Fb.Wf f ∧ most ≤ 2 ∧
  ∀ (p fo : Addr) (as : List Addr) (rows : List (List Nat)) (H' : Hp), Same H H' → H' p = some (.lst [.int ((f.best most t).lost : Nat), .ref fo]) → H' fo = some (.lst (as.map V.ref)) → RowsAt H' as rows →
    rows.length = (f.best most t).many → rows.head? = some (f.best most t).breaks → Q (.ref p) H'
/-- the sets with fewer than t breaks -/
def upto (f : Sw96.Forest) (t : Nat) : List (List Nat) := (List.range t).flatMap fun n => Sw96.choose n f.free
theorem upto_succ (f : Sw96.Forest) (t : Nat) : upto f (t + 1) = upto f t ++ Sw96.choose t f.free := Fb.sets_succ f t
section
variable {P : Program} {w : World} {K : PySem.W.Frag} {mg : Str → Option Value} {base : Heap} {CF CD : Addr}
theorem scBestOf : FnScope ["forest", "most", "last", "places", "least", "found", "size", "breaks", "lost", "place"] ["forest", "most", "last"] (defScope sBestOf) := ⟨rfl, rfl, rfl, by decide +kernel, rfl, by decide +kernel, by decide +kernel⟩
theorem ok_bestof {f : Addr} {fd : FuncData} (F : Fun K "best_of" "best_of" sBestOf f fd) (T : Txt K mg CF CD) (mS : MCal P w K mg base 1 CF "size" ["self"] (spSize K CF)) (cS : Cal P w K mg base 1 "sets_of" ["places", "size"] spSets) (cL : Cal P w K mg base 5 "lost_by" ["forest", "last", "breaks"] (spLost K CF)) :
    FnOk P w K mg base CX0 6 f fd ["forest", "most", "last"] (spBestOf K CF) := by
  refine F.ok scBestOf (fun vs H Q E h => ?_) (fun cdv A outer s H vs Q E hr h => ?_)
  · obtain ⟨a, f, most, t, rfl, _⟩ := h
    rfl
  · obtain ⟨a, f, most, t, rfl, ⟨dx, s, wo, wi, fi, h⟩, W, hmost, k⟩ := h
    obtain ⟨fs, fds, ms, bs, Gs⟩ := mS
    obtain ⟨fe, fde, ge, ke, be, Ge⟩ := cS
    obtain ⟨fl, fdl, gl, kl, bl, Gl⟩ := cL
    have hu := hu_of hr
    have hr1 : Room 1 _ := hr.mono (by decide)
    refine ⟨_, pss_cons (ps_setLc (i := 3) (own := [("place", 9)]) (g := gName 9) (tt := tTest (tOp (rIn K true) (tVar 9) (tFld K (tVar 0) "fires"))) (te := tVar 9) (by rfl) scBestOf.nd rfl rfl (sw_true rfl rfl rfl (by decide +kernel))
        (pi_range1 rfl T.range (pa_cons (pe_meth0 (pv 0) T.clF ms Gs hr1 bs .nil pass0) pa_nil))
        (blkOk_by (own := [("place", 9)]) (N := ["forest", "most", "last", "places", "least", "found", "size", "breaks", "lost", "place"]) (sc := defScope sBestOf) (by decide +kernel)) (fun _ _ _ _ _ => pg_name (i := 9) scBestOf.nd rfl (Or.inl rfl))
        (fun _ _ _ _ _ => pts_one (by exact pt_cmpR op_notIn_seq (pv 9) (pe_fld (pv 0) rfl) rfl)) (fun _ _ _ _ _ => pv 9))
      (pss_cons (ps_set (i := 4) scBestOf.nd rfl (Or.inl rfl) (pe_un un_neg pe_int))
      (pss_cons (ps_set (i := 5) scBestOf.nd rfl (Or.inl rfl) (pe_lst pa_nil))
      (pss_cons (ps_for PassesOwn.never rfl (pi_range1 rfl T.range (pa_cons (pe_op op_add (pv 1) pe_int) pa_nil)) (pg_name (i := 6) scBestOf.nd rfl (Or.inl rfl))
        (pss_one (ps_for PassesOwn.never rfl (pi_list (pe_call Ge hr1 rfl ge ke be .nil pass0 (pa_cons (pv 3) (pa_cons (pv 6) pa_nil)))) (pg_name (i := 7) scBestOf.nd rfl (Or.inl rfl))
          (pss_cons (ps_set (i := 8) scBestOf.nd rfl (Or.inl rfl) (pe_call Gl hr rfl gl kl bl .nil pass0 (pa_cons (pv 0) (pa_cons (pv 2) (pa_cons (pv 7) pa_nil)))))
          (pss_one (ps_if (PW.pt (pw_or (pt_cmpR (op_eqNil hu) (pv 5) (pe_lst pa_nil) (nomark _)) (pw_or1 (pt_cmpR op_lt (pv 8) (pv 4) (nomark _)))))
            (pss_cons (ps_set (i := 4) scBestOf.nd rfl (Or.inl rfl) (pv 8)) (pss_one (ps_set (i := 5) scBestOf.nd rfl (Or.inl rfl) (pe_lst (pa_cons (pv 7) pa_nil)))))
            (pss_one (ps_if (pt_cmpR op_eq (pv 8) (pv 4) (nomark _))
              (pss_one (ps_expr (pe_bm PySem.F.plainAttrs_list PySem.F.slot_list_append PySem.F.type_list_append mt_append (pv 5) (pa_cons (pv 7) pa_nil)))) pss_nil))))))))
      (pss_one (ps_ret (pe_lst (pa_cons (pv 4) (pa_cons (pv 5) pa_nil)))))))), ?_⟩
    have n25 := W.len
    have fr25 : f.free.length ≤ 25 := Nat.le_trans (Fb.free_len f) n25
    -- places = [..]
    refine ⟨_, rfl, a, dx, _, rfl, h.ob, fF_size, a, f, rfl, ⟨dx, s, wo, wi, fi, h⟩, _, rfl, by omega, by omega, fun pl hpl => ?_⟩
    refine lc_range (lo := 0) (fun i H' => Same H H' ∧ H' pl = some (.lst (nums ((List.range i).filter fun i => !f.fires.contains i)))) ⟨same_upd (Same.refl H) hpl, upd_same⟩ ?_ ?_
    · rintro i H1 hi ⟨s1, p1⟩
      rw [Int.toNat_natCast] at hi
      have h1 := h.same s1
      have ei : (0 : Int) + (i : Int) = (i : Int) := by omega
      rw [ei]
      refine ⟨rfl, _, rfl, _, rfl, a, CF, dx, _, _, rfl, h1.ob, T.clF, T.nFires, fF_fires, fi, _, rfl, .inl (SqL.of h1.fi), rfl, nums_flat _, _, rfl, ?_⟩
      rw [if_pos rfl, nums_in]
      cases c : f.fires.contains i with
      | true =>
        refine iteF ⟨s1, ?_⟩
        rw [List.range_succ, filter_no (p := fun i => !f.fires.contains i) (by rw [c]; rfl)]
        exact p1
      | false =>
        refine iteT ?_
        refine ⟨_, rfl, _, p1, ?_, same_upd s1 hpl, ?_⟩
        · rw [nums_len]
          refine big _ ?_
          have q1 := filter_len (fun i => !f.fires.contains i) (List.range i)
          rw [List.length_range] at q1
          omega
        · rw [upd_same, List.range_succ, filter_yes (p := fun i => !f.fires.contains i) (by rw [c]; rfl), nums_append]
          rfl
    rintro H1 ⟨s1, p1⟩
    rw [Int.toNat_natCast] at p1
    have p1 : H1 pl = some (.lst (nums f.free)) := p1
    -- least = -1, found = []
    refine ⟨1, rfl, by decide, fun fo hfo => ?_⟩
    have hpf : pl ≠ fo := ne_of_none p1 hfo
    have R0 : RL H (upd H1 fo (.lst [])) fo [] [] := RL.start s1 hfo
    -- for size in range(most + 1)
    refine ⟨_, rfl, _, _, rfl, rfl, _, rfl, by omega, by omega, ?_⟩
    have em : ((most : Int) + 1).toNat = most + 1 := by omega
    rw [em]
    refine for_range (lo := 0) (fun j σ H' => ∃ (least : Int) (fo : Addr) (as : List Addr) (rows : List (List Nat)) (v6 v7 v8 : Option V), σ = [some (.ref a), some (.int (most : Int)), some (.int (t : Int)), some (.ref pl), some (.int least), some (.ref fo), v6, v7, v8, none] ∧
        RL H H' fo as rows ∧ H' pl = some (.lst (nums f.free)) ∧ pl ≠ fo ∧ Fb.Holds ((upto f j).foldl (Fb.bturn f t) none) least rows ∧ rows.length ≤ 1000 * j)
      ⟨-1, fo, [], [], _, _, _, rfl, R0, by rw [upd_ne hpf]; exact p1, hpf, rfl, Nat.le_refl _⟩ ?_ ?_
    · rintro j σ H2 hj ⟨least, fo, as, rows, v6, v7, v8, rfl, R2, p2, hpf, Hd, hlen⟩
      have ej : (0 : Int) + (j : Int) = (j : Int) := by omega
      rw [ej]
      have hch := choose_le (k := j) fr25 (by omega)
      -- sets_of(places, size)
      refine ⟨_, rfl, _, rfl, pl, f.free, j, rfl, p2, Fb.free_rising f, fr25, by omega, fun sa sas H3 R3 => ?_⟩
      have hsf : sa ≠ fo := fun e => by
        have := R3.new
        rw [e, R2.lst] at this
        cases this
      have hss : ∀ x ∈ sas, x ≠ fo := fun x hx e => by
        have := (R3.fresh x hx).1
        rw [e, R2.lst] at this
        cases this
      -- for breaks in ..
      refine ⟨sa, rfl, ⟨_, SqL.of R3.lst⟩, for_list (K := K) (a := sa) (xs := sas.map V.ref) (fun i σ H' => ∃ (least : Int) (fo : Addr) (as : List Addr) (rows : List (List Nat)) (v7 v8 : Option V), σ = [some (.ref a), some (.int (most : Int)), some (.int (t : Int)), some (.ref pl), some (.int least), some (.ref fo), some (.int (j : Int)), v7, v8, none] ∧
          RL H H' fo as rows ∧ H' pl = some (.lst (nums f.free)) ∧ pl ≠ fo ∧ H' sa = some (.lst (sas.map V.ref)) ∧ RowsAt H' sas (Sw96.choose j f.free) ∧ sa ≠ fo ∧ (∀ x ∈ sas, x ≠ fo) ∧ Fb.Holds (((Sw96.choose j f.free).take i).foldl (Fb.bturn f t) ((upto f j).foldl (Fb.bturn f t) none)) least rows ∧ rows.length ≤ 1000 * j + i)
        ⟨least, fo, as, rows, _, _, rfl, R2.grow R3.same, R3.same _ _ p2, hpf, R3.lst, R3.rows, hsf, hss, Hd, hlen⟩ (fun i σ H' _ ⟨_, _, _, _, _, _, _, _, _, _, h, _⟩ => SqL.of h) ?_ ?_⟩
      · rintro i y σ H4 hi ⟨least, fo, as, rows, v7, v8, rfl, R4, p4, hpf, l4, rows4, hsf, hss, Hd, hlen⟩
        obtain ⟨ra, br, rfl, ram, hbr, hra⟩ := rows4.get hi
        have tk := take_more hbr
        have bm : br ∈ Sw96.choose j f.free := List.mem_of_getElem? hbr
        obtain ⟨blen, bmem⟩ := Fb.choose_mem bm
        have hil : i < (Sw96.choose j f.free).length := (List.getElem?_eq_some_iff.mp hbr).1
        have hra0 : H ra = none := R2.same.free (R3.fresh ra ram).1
        -- lost = lost_by(forest, last, breaks)
        refine ⟨_, rfl, _, rfl, _, rfl, a, ra, f, br, t, rfl, ⟨dx, s, wo, wi, fi, h.same R4.same⟩, W, hra, Fb.choose_apart bm, fun x hx => (Fb.free_mem.mp (bmem x hx)).1, by omega, fun H5 s5 => ?_⟩
        have R5 := R4.grow s5
        have hfold : ((Sw96.choose j f.free).take (i + 1)).foldl (Fb.bturn f t) ((upto f j).foldl (Fb.bturn f t) none) = Fb.bturn f t (((Sw96.choose j f.free).take i).foldl (Fb.bturn f t) ((upto f j).foldl (Fb.bturn f t) none)) br := by
          rw [tk, List.foldl_append]
          rfl
        -- found == [] or lost < least
        refine ⟨_, rfl, by decide, fun e he => ?_⟩
        have s6' : Same H5 (upd H5 e (.lst [])) := same_upd (Same.refl _) he
        have s6 : Same H4 (upd H5 e (.lst [])) := s5.trans s6'
        have R6 := R5.grow s6'
        refine ⟨fo, e, _, rfl, rfl, SqL.of R6.lst, SqL.of upd_same, _, rfl, ?_⟩
        -- least = lost; found = [breaks]
        have fresh : ∀ (m0 : Option V), (rows = [] ∨ ((f.lost br t : Nat) : Int) < least) → tSeq (tAsg (tVar 8) (gName 4)) (tAsg (tLst (tCons (tVar 7) tNil)) (gName 5))
            { nx := fun σ H' => ∃ (least : Int) (fo : Addr) (as : List Addr) (rows : List (List Nat)) (v7 v8 : Option V), σ = [some (.ref a), some (.int (most : Int)), some (.int (t : Int)), some (.ref pl), some (.int least), some (.ref fo), some (.int (j : Int)), v7, v8, none] ∧
                RL H H' fo as rows ∧ H' pl = some (.lst (nums f.free)) ∧ pl ≠ fo ∧ H' sa = some (.lst (sas.map V.ref)) ∧ RowsAt H' sas (Sw96.choose j f.free) ∧ sa ≠ fo ∧ (∀ x ∈ sas, x ≠ fo) ∧ Fb.Holds (((Sw96.choose j f.free).take (i + 1)).foldl (Fb.bturn f t) ((upto f j).foldl (Fb.bturn f t) none)) least rows ∧ rows.length ≤ 1000 * j + (i + 1), rt := Q }
            [some (.ref a), some (.int (most : Int)), some (.int (t : Int)), some (.ref pl), some (.int least), some (.ref fo), some (.int (j : Int)), some (.ref ra), some (.int ((f.lost br t : Nat) : Int)), none] (upd H5 e (.lst [])) := by
          intro _ hc
          refine ⟨_, rfl, _, rfl, by show 1 ≤ sizeLine; decide, fun n hn => ?_⟩
          have s7 : Same (upd H5 e (.lst [])) (upd (upd H5 e (.lst [])) n (.lst [V.ref ra])) := same_upd (Same.refl _) hn
          have hn0 : H n = none := R6.same.free hn
          have hne : ∀ b o, H4 b = some o → b ≠ n := fun b o eb => ne_of_none (s6 _ _ eb) hn
          refine ⟨_, n, [ra], [br], _, _, rfl, ⟨R6.same.trans s7, hn0, upd_same, ⟨s7 _ _ (s6 _ _ hra), trivial⟩, fun b hb => ?_⟩, s7 _ _ (s6 _ _ p4), hne _ _ p4, s7 _ _ (s6 _ _ l4), rows4.mono fun _ _ _ e => s7 _ _ (s6 _ _ e), hne _ _ l4, fun x hx => ?_, ?_, by show 1 ≤ _; omega⟩
          · rw [List.mem_singleton.mp hb]
            exact ⟨hra0, hne _ _ hra⟩
          · obtain ⟨q, hq⟩ := List.getElem?_of_mem hx
            obtain ⟨c, r, e1, _, _, e4⟩ := rows4.get (k := q) (v := V.ref x) (by rw [List.getElem?_map, hq]; rfl)
            cases e1
            exact hne _ _ e4
          · rw [hfold]
            exact Fb.holds_new Hd hc
        by_cases c : rows = []
        · have ea : (as.map V.ref).isEmpty = true := by
            have := R4.rows.len
            rw [c] at this
            cases as with
            | nil => rfl
            | cons _ _ => cases this
          rw [ea]
          exact iteT (iteT (fresh none (.inl c)))
        · have ea : (as.map V.ref).isEmpty = false := by
            have := R4.rows.len
            cases as with
            | nil =>
              cases rows with
              | nil => exact absurd rfl c
              | cons _ _ => cases this
            | cons _ _ => rfl
          rw [ea]
          refine iteF ?_
          refine ⟨_, rfl, _, rfl, _, _, rfl, rfl, _, rfl, ?_⟩
          by_cases lt : ((f.lost br t : Nat) : Int) < least
          · exact if_true_of (decide_eq_true lt) (fresh none (.inr lt))
          · refine if_false_of (decide_eq_false lt) ?_
            -- lost == least
            refine ⟨_, rfl, _, rfl, rfl, _, rfl, ?_⟩
            by_cases eq : ((f.lost br t : Nat) : Int) = least
            · refine if_true_of (by rw [eq]; simp) ?_
              refine ⟨_, rfl, .inl ⟨rfl, _, SqL.of R6.lst⟩, _, rfl, fo, _, _, rfl, rfl, R6.lst, ?_, least, fo, as ++ [ra], rows ++ [br], _, _, rfl, ?_, ?_, hpf, ?_, ?_, hsf, hss, ?_, ?_⟩
              · rw [List.length_map, R6.rows.len]
                exact big _ (by omega)
              · exact R6.one (s6 _ _ hra) ⟨hra0, hss ra ram⟩
              · rw [upd_ne hpf]
                exact s6 _ _ p4
              · rw [upd_ne hsf]
                exact s6 _ _ l4
              · refine rows4.mono fun b hb o eb => ?_
                rw [upd_ne (hss b hb)]
                exact s6 _ _ eb
              · rw [hfold]
                exact Fb.holds_more Hd c eq
              · rw [List.length_append]
                show rows.length + 1 ≤ _
                omega
            · refine if_false_of (by simpa using eq) ?_
              refine ⟨least, fo, as, rows, _, _, rfl, R6, s6 _ _ p4, hpf, s6 _ _ l4, rows4.mono fun _ _ _ eb => s6 _ _ eb, hsf, hss, ?_, by omega⟩
              rw [hfold]
              exact Fb.holds_same Hd c lt eq
      · rintro σ H4 ⟨least, fo, as, rows, v7, v8, rfl, R4, p4, hpf, l4, rows4, hsf, hss, Hd, hlen⟩
        rw [List.length_map, rows4.len] at hlen
        rw [List.length_map, rows4.len, List.take_length, ← List.foldl_append, ← upto_succ] at Hd
        exact ⟨least, fo, as, rows, _, _, _, rfl, R4, p4, hpf, Hd, by omega⟩
    · rintro σ H2 ⟨least, fo, as, rows, v6, v7, v8, rfl, R2, p2, hpf, Hd, hlen⟩
      obtain ⟨e1, e2, e3⟩ := Fb.holds_best (k := most) Hd
      refine ⟨_, rfl, _, rfl, by show 2 ≤ sizeLine; decide, fun p hp => ?_⟩
      have s3 : Same H2 (upd H2 p (.lst [V.int least, V.ref fo])) := same_upd (Same.refl _) hp
      refine k p fo as rows _ (R2.same.trans s3) ?_ (s3 _ _ R2.lst) (R2.rows.mono fun _ _ _ e => s3 _ _ e) e2 e3
      rw [upd_same, e1]
end
end Fw

/-! are_within, forest_of, is_wind, are_breaks, told -/
namespace Fw
open PySem PySem.Spec PyProof.Rows L2
def within (lo hi x : Nat) : Bool := decide (lo ≤ x) && decide (x ≤ hi)
theorem none_out {l : List Nat} {lo hi : Nat} : (nums (l.filter fun x => !within lo hi x)).isEmpty = l.all (within lo hi) := by
  induction l with
  | nil => rfl
  | cons a l ih =>
    rw [List.filter_cons, List.all_cons]
    cases c : within lo hi a with
    | true =>
      rw [if_neg (by decide), ih, Bool.true_and]
    | false =>
      rw [if_pos (by rfl)]
      rfl
/-- are_within(numbers, low, high) -/
def spWithin : Sp := fun vs H Q _ => ∃ (a : Addr) (l : List Nat) (lo hi : Nat), vs = [.ref a, .int (lo : Int), .int (hi : Int)] ∧ H a = some (.lst (nums l)) ∧ l.length ≤ 1000 ∧
  ∀ H' : Hp, Same H H' → Q (.bl (l.all (within lo hi))) H'
/-- is_wind(numbers) -/
def spIsWind : Sp := fun vs H Q _ => ∃ (a : Addr) (l : List Nat), vs = [.ref a] ∧ H a = some (.lst (nums l)) ∧ l.length ≤ 1000 ∧
  ∀ H' : Hp, Same H H' → Q (.bl (l.all (within 1 9))) H'
/-- slownesses and worths by turns -/
def flat (ps : List Sw96.Place) : List Nat := ps.flatMap fun p => [p.slow, p.worth]
theorem flat_len2 : ∀ ps : List Sw96.Place, (flat ps).length = 2 * ps.length
  | [] => rfl
  | p :: ps => by
    show (flat ps).length + 2 = _
    rw [flat_len2 ps, List.length_cons]
    omega
theorem flat_even : ∀ (ps : List Sw96.Place) (k : Nat), (flat ps)[2 * k]? = (ps[k]?).map fun p => p.slow
  | [], k => by simp [flat]
  | p :: ps, 0 => rfl
  | p :: ps, k + 1 => by
    have e : 2 * (k + 1) = 2 * k + 1 + 1 := by omega
    rw [e]
    exact flat_even ps k
theorem flat_odd : ∀ (ps : List Sw96.Place) (k : Nat), (flat ps)[2 * k + 1]? = (ps[k]?).map fun p => p.worth
  | [], k => by simp [flat]
  | p :: ps, 0 => rfl
  | p :: ps, k + 1 => by
    have e : 2 * (k + 1) + 1 = (2 * k + 1) + 1 + 1 := by omega
    rw [e]
    exact flat_odd ps k
theorem filterMap_range {α β : Type} (g : α → β) : ∀ (l : List α), (List.range l.length).filterMap (fun k => (l[k]?).map g) = l.map g := by
  intro l
  induction l with
  | nil => rfl
  | cons a l ih =>
    rw [List.length_cons, List.range_succ_eq_map, List.filterMap_cons_some (f := fun k => Option.map g (a :: l)[k]?) (b := g a) rfl, List.filterMap_map, List.map_cons]
    congr 1
theorem nums_filterMap {l : List Nat} (ix : List Nat) : ix.filterMap ((nums l)[·]?) = nums (ix.filterMap (l[·]?)) := by
  induction ix with
  | nil => rfl
  | cons i ix ih =>
    cases e : l[i]? with
    | none =>
      have e' : (nums l)[i]? = none := by
        unfold nums
        rw [List.getElem?_map, e]
        rfl
      rw [List.filterMap_cons_none e, List.filterMap_cons_none e', ih]
    | some z =>
      rw [List.filterMap_cons_some e, List.filterMap_cons_some (nums_at e), ih]
      rfl
theorem sr_even (n : Nat) : sliceRange (sliceBounds none none (some 2) (2 * n)).1 (sliceBounds none none (some 2) (2 * n)).2.1 (sliceBounds none none (some 2) (2 * n)).2.2 = (List.range n).map fun k => 2 * k := by
  have e : sliceBounds none none (some 2) (2 * n) = ((0 : Int), ((2 * n : Nat) : Int), (2 : Int)) := rfl
  rw [e]
  unfold sliceRange
  have h2 : (2 : Int) > 0 := by decide
  by_cases h : (0 : Int) < ((2 * n : Nat) : Int)
  · have ec : (((2 * n : Nat) : Int) - 0 + 2 - 1) / 2 = (n : Int) := by omega
    simp only [h2, if_true, h, ec, Int.toNat_natCast]
    refine List.map_congr_left fun k _ => ?_
    omega
  · have e : n = 0 := by omega
    subst e
    simp
theorem sr_odd {n : Nat} (hn : 0 < n) : sliceRange (sliceBounds (some 1) none (some 2) (2 * n)).1 (sliceBounds (some 1) none (some 2) (2 * n)).2.1 (sliceBounds (some 1) none (some 2) (2 * n)).2.2 = (List.range n).map fun k => 2 * k + 1 := by
  have e : sliceBounds (some 1) none (some 2) (2 * n) = (max 0 (min (1 : Int) ((2 * n : Nat) : Int)), ((2 * n : Nat) : Int), (2 : Int)) := rfl
  have e1 : max 0 (min (1 : Int) ((2 * n : Nat) : Int)) = 1 := by omega
  rw [e, e1]
  unfold sliceRange
  have h2 : (2 : Int) > 0 := by decide
  have h : (1 : Int) < ((2 * n : Nat) : Int) := by omega
  have ec : (((2 * n : Nat) : Int) - 1 + 2 - 1) / 2 = (n : Int) := by omega
  simp only [h2, if_true, h, ec, Int.toNat_natCast]
  refine List.map_congr_left fun k _ => ?_
  omega
theorem pick_slow (ps : List Sw96.Place) : pick2 (nums (flat ps)) none = nums (ps.map fun p => p.slow) := by
  unfold pick2
  rw [nums_len, flat_len2, sr_even, nums_filterMap, List.filterMap_map]
  congr 1
  rw [← filterMap_range (fun p : Sw96.Place => p.slow) ps]
  congr 1
  funext k
  exact flat_even ps k
theorem pick_worth {ps : List Sw96.Place} (h : ps ≠ []) : pick2 (nums (flat ps)) (some 1) = nums (ps.map fun p => p.worth) := by
  have hn : 0 < ps.length := List.length_pos_iff.mpr h
  unfold pick2
  rw [nums_len, flat_len2, sr_odd hn, nums_filterMap, List.filterMap_map]
  congr 1
  rw [← filterMap_range (fun p : Sw96.Place => p.worth) ps]
  congr 1
  funext k
  exact flat_odd ps k
/-- what makes no forest -/
def Bad (w : Nat) (p : List Sw96.Place) : Prop := w < 1 ∨ Sw96.SIDE < w ∨ p = [] ∨ p.length % w ≠ 0 ∨ Sw96.SIDE * w < p.length ∨ (p.all fun x => decide (x.slow ≤ Sw96.SLOW) && decide (x.worth ≤ Sw96.WORTH)) = false
theorem all_both (p : List Sw96.Place) : (p.all fun x => decide (x.slow ≤ Sw96.SLOW) && decide (x.worth ≤ Sw96.WORTH)) = ((p.map fun p => p.slow).all (within 0 60) && (p.map fun p => p.worth).all (within 0 1000)) := by
  induction p with
  | nil => rfl
  | cons a p ih =>
    rw [List.all_cons, ih, List.map_cons, List.map_cons, List.all_cons, List.all_cons]
    have e1 : within 0 60 a.slow = decide (a.slow ≤ Sw96.SLOW) := by
      unfold within
      simp [Sw96.SLOW]
      rfl
    have e2 : within 0 1000 a.worth = decide (a.worth ≤ Sw96.WORTH) := by
      unfold within
      simp [Sw96.WORTH]
      rfl
    rw [e1, e2]
    cases decide (a.slow ≤ Sw96.SLOW) <;> cases decide (a.worth ≤ Sw96.WORTH) <;> cases (p.map fun p => p.slow).all (within 0 60) <;> cases (p.map fun p => p.worth).all (within 0 1000) <;> rfl
/-- forest_of(wide, row) -/
def spForestOf (K : PySem.W.Frag) (C : Addr) : Sp := fun vs H Q _ => ∃ (r : Addr) (wd : Nat) (ps : List Sw96.Place), vs = [.int (wd : Int), .ref r] ∧ H r = some (.lst (nums (flat ps))) ∧ ps.length ≤ 25 ∧
  (Bad wd ps → ∀ (p : Addr) (H' : Hp), Same H H' → H' p = some (.lst []) → Q (.ref p) H') ∧
  (¬ Bad wd ps → ∀ (p q dx s wo wi fi : Addr) (H' : Hp), Same H H' → H' p = some (.lst [.ref q]) → H q = none → ForestIn K C H' q ⟨wd, ps, [1, 1, 1, 1], []⟩ dx s wo wi fi → H s = none → H wo = none → H fi = none → Q (.ref p) H')
/-- are_breaks(forest, breaks) -/
def spAreBreaks (K : PySem.W.Frag) (C : Addr) : Sp := fun vs H Q _ => ∃ (a b : Addr) (f : Sw96.Forest) (br : List Nat), vs = [.ref a, .ref b] ∧ ForestAt K C H a f ∧ H b = some (.lst (nums br)) ∧ br.length ≤ 25 ∧ Q (.bl (f.breaksOk br)) H
/-- told(row) -/
def spTold : Sp := fun vs H Q _ => ∃ (a : Addr) (xs : List V), vs = [.ref a] ∧ H a = some (.lst xs) ∧ xs.length ≤ 1000 ∧
  ∀ (p : Addr) (H' : Hp), Same H H' → H p = none → H' p = some (.lst (.int (xs.length : Nat) :: xs)) → Q (.ref p) H'
section
variable {P : Program} {w : World} {K : PySem.W.Frag} {mg : Str → Option Value} {base : Heap} {CF CD : Addr}
theorem scWithin : FnScope ["numbers", "low", "high", "number"] ["numbers", "low", "high"] (defScope sWithin) := ⟨rfl, rfl, rfl, by decide +kernel, rfl, by decide +kernel, by decide +kernel⟩
theorem ok_within {f : Addr} {fd : FuncData} (F : Fun K "are_within" "are_within" sWithin f fd) : FnOk P w K mg base CX0 1 f fd ["numbers", "low", "high"] spWithin := by
  refine F.ok scWithin (fun vs H Q E h => ?_) (fun cdv A outer s H vs Q E hr h => ?_)
  · obtain ⟨a, l, lo, hi, rfl, _⟩ := h
    rfl
  · obtain ⟨a, l, lo, hi, rfl, ha, l1000, k⟩ := h
    have hu := hu_of hr
    refine ⟨_, pss_one (ps_ret (pe_cmpR (op_eqNil hu) (pe_lc (own := [("number", 3)]) (g := gName 3) (tt := tNot (tTest (tChain (rI0 fun i j => .bl (decide (i ≤ j))) (rI0 fun i j => .bl (decide (i ≤ j))) (tVar 1) (tVar 3) (tVar 2)))) (te := tVar 3) (by rfl) scWithin.nd (pi_list (pv 0))
      (blkOk_by (own := [("number", 3)]) (N := ["numbers", "low", "high", "number"]) (sc := defScope sWithin) (by decide +kernel)) (fun _ _ _ _ _ => pg_name (i := 3) scWithin.nd rfl (Or.inl rfl))
      (fun _ _ _ _ _ => pts_one (pt_not (by exact pt_chain op_le op_le (pv 1) (pv 3) (pv 2)))) (fun _ _ _ _ _ => pv 3)) (pe_lst pa_nil) (nomark _))), ?_⟩
    refine ⟨_, rfl, a, rfl, ⟨_, SqL.of ha⟩, fun D hD => ?_⟩
    refine lc_list (K := K) (a := a) (xs := nums l) (fun i H' => Same H H' ∧ H' D = some (.lst (nums ((l.take i).filter fun x => !within lo hi x)))) ⟨same_upd (Same.refl H) hD, upd_same⟩ (fun i H' _ ⟨s1, _⟩ => SqL.of (s1 _ _ ha)) ?_ ?_
    · rintro i y H1 hi' ⟨s1, d1⟩
      obtain ⟨z, hz, rfl⟩ := nums_get hi'
      have tk := take_more hz
      refine ⟨rfl, _, rfl, _, rfl, _, _, rfl, rfl, _, rfl, ?_⟩
      have yes : within lo hi z = true → Same H H1 ∧ H1 D = some (.lst (nums ((l.take (i + 1)).filter fun x => !within lo hi x))) := fun c => by
        refine ⟨s1, ?_⟩
        rw [tk, filter_no (p := fun x => !within lo hi x) (by rw [c]; rfl)]
        exact d1
      have no : within lo hi z = false → tVar 3 [some (.ref a), some (.int (lo : Int)), some (.int (hi : Int)), some (.int (z : Int))] H1 fun y H4 => ∃ acc, H4 D = some (.lst acc) ∧ acc.length < sizeLine ∧ Same H (upd H4 D (.lst (acc ++ [y]))) ∧ (upd H4 D (.lst (acc ++ [y]))) D = some (.lst (nums ((l.take (i + 1)).filter fun x => !within lo hi x))) := fun c => by
        refine ⟨_, rfl, _, d1, ?_, same_upd s1 hD, ?_⟩
        · rw [nums_len]
          have h1 := filter_len (fun x => !within lo hi x) (l.take i)
          have h2 : (l.take i).length ≤ i := by rw [List.length_take]; omega
          have h3 : i < l.length := (List.getElem?_eq_some_iff.mp hz).1
          exact big _ (by omega)
        · rw [upd_same, tk, filter_yes (p := fun x => !within lo hi x) (by rw [c]; rfl), nums_append]
          rfl
      by_cases c1 : lo ≤ z
      · refine if_true_of (decide_eq_true (by omega)) ?_
        refine ⟨_, rfl, _, _, rfl, rfl, _, rfl, ?_⟩
        by_cases c2 : z ≤ hi
        · exact if_false_of (by simp; omega) (yes (by unfold within; simp [c1, c2]))
        · exact if_true_of (by simp; omega) (no (by unfold within; simp [c2]))
      · refine if_false_of (decide_eq_false (by omega)) ?_
        exact ⟨_, rfl, iteT (no (by unfold within; simp [c1]))⟩
    · rintro H1 ⟨s1, d1⟩
      rw [nums_len, List.take_length] at d1
      refine ⟨by decide, fun e he => ?_⟩
      have s2 : Same H1 (upd H1 e (.lst [])) := same_upd (Same.refl _) he
      refine ⟨D, e, _, rfl, rfl, SqL.of (s2 _ _ d1), SqL.of upd_same, ?_⟩
      rw [none_out]
      exact k _ (s1.trans s2)
theorem scIsWind : FnScope ["numbers"] ["numbers"] (defScope sIsWind) := ⟨rfl, rfl, rfl, by decide +kernel, rfl, by decide +kernel, by decide +kernel⟩
theorem ok_iswind {f : Addr} {fd : FuncData} (F : Fun K "is_wind" "is_wind" sIsWind f fd) (T : Txt K mg CF CD) (cW : Cal P w K mg base 1 "are_within" ["numbers", "low", "high"] spWithin) : FnOk P w K mg base CX0 2 f fd ["numbers"] spIsWind := by
  refine F.ok scIsWind (fun vs H Q E h => ?_) (fun cdv A outer s H vs Q E hr h => ?_)
  · obtain ⟨a, l, rfl, _⟩ := h
    rfl
  · obtain ⟨a, l, rfl, ha, hl, k⟩ := h
    obtain ⟨fw, fdw, gw, kw, bw, Gw⟩ := cW
    obtain ⟨t9, g9⟩ := T.strongest
    refine ⟨_, pss_one (ps_ret (pe_call Gw hr rfl gw kw bw .nil pass0 (pa_cons (pv 0) (pa_cons pe_int (pa_cons (pe_glob (v := .int 9) rfl g9 ⟨_, rfl⟩) pa_nil))))), ?_⟩
    exact ⟨_, rfl, a, l, 1, 9, rfl, ha, hl, k⟩
theorem scTold : FnScope ["row"] ["row"] (defScope sTold) := ⟨rfl, rfl, rfl, by decide +kernel, rfl, by decide +kernel, by decide +kernel⟩
theorem ok_told {f : Addr} {fd : FuncData} (F : Fun K "told" "told" sTold f fd) (T : Txt K mg CF CD) : FnOk P w K mg base CX0 1 f fd ["row"] spTold := by
  refine F.ok scTold (fun vs H Q E h => ?_) (fun cdv A outer s H vs Q E hr h => ?_)
  · obtain ⟨a, xs, rfl, _⟩ := h
    rfl
  · obtain ⟨a, xs, rfl, ha, hl, k⟩ := h
    refine ⟨_, pss_one (ps_ret (pe_op op_cat (pe_lst (pa_cons (pe_callB call_len_seq (by rfl) T.len PySem.boot_len (pa_cons (pv 0) pa_nil)) pa_nil)) (pv 0))), ?_⟩
    refine ⟨_, rfl, a, _, rfl, .inl (SqL.of ha), by show 1 ≤ sizeLine; decide, fun o ho => ?_⟩
    have s1 : Same H (upd H o (.lst [V.int (xs.length : Nat)])) := same_upd (Same.refl H) ho
    refine ⟨_, rfl, o, a, _, _, rfl, rfl, upd_same, s1 _ _ ha, ?_, fun p hp => ?_⟩
    · show 1 + xs.length ≤ sizeLine
      exact Nat.le_of_lt (big _ (by omega))
    · exact k p _ (same_upd s1 (s1.free hp)) (s1.free hp) upd_same
theorem scForestOf : FnScope ["wide", "row", "many", "slownesses", "worths"] ["wide", "row"] (defScope sForestOf) := ⟨rfl, rfl, rfl, by decide +kernel, rfl, by decide +kernel, by decide +kernel⟩
theorem ok_forestof {f : Addr} {fd : FuncData} (F : Fun K "forest_of" "forest_of" sForestOf f fd) (T : Txt K mg CF CD) (cW : Cal P w K mg base 1 "are_within" ["numbers", "low", "high"] spWithin) (iF : ICal P w K mg base 1 CF ["self", "wide", "slownesses", "worths"] (spFInit K CF)) :
    FnOk P w K mg base CX0 3 f fd ["wide", "row"] (spForestOf K CF) := by
  refine F.ok scForestOf (fun vs H Q E h => ?_) (fun cdv A outer s H vs Q E hr h => ?_)
  · obtain ⟨r, wd, ps, rfl, _⟩ := h
    rfl
  · obtain ⟨r, wd, ps, rfl, hrow, h25, kB, kG⟩ := h
    obtain ⟨fw, fdw, gw, kw, bw, Gw⟩ := cW
    obtain ⟨fI, fdI, MI, bI, GI⟩ := iF
    obtain ⟨t1, g1⟩ := T.mostWide
    obtain ⟨t2, g2⟩ := T.mostRows
    obtain ⟨t3, g3⟩ := T.slowest
    obtain ⟨t4, g4⟩ := T.dearest
    have hr1 : Room 1 _ := hr.mono (by decide)
    refine ⟨_, pss_cons (ps_set (i := 2) scForestOf.nd rfl (Or.inl rfl) (pe_op op_fdiv (pe_callB call_len_seq (by rfl) T.len PySem.boot_len (pa_cons (pv 1) pa_nil)) pe_int))
      (pss_cons (ps_if (PW.pt (pw_or (pt_not (pt_chain op_le op_le pe_int (pv 0) (pe_glob (v := .int 5) rfl g1 ⟨_, rfl⟩))) (pw_or (pt_cmpR op_eq (pe_op op_mod (pe_callB call_len_seq (by rfl) T.len PySem.boot_len (pa_cons (pv 1) pa_nil)) pe_int) pe_int (nomark _))
          (pw_or (pt_cmpR op_eq (pv 2) pe_int (nomark _)) (pw_or1 (pt_cmpR op_ne (pe_op op_mod (pv 2) (pv 0)) pe_int (nomark _)))))))
        (pss_one (ps_ret (pe_lst pa_nil))) pss_nil)
      (pss_cons (ps_set (i := 3) scForestOf.nd rfl (Or.inl rfl) (pe_step2 (pv 1) po_none))
      (pss_cons (ps_set (i := 4) scForestOf.nd rfl (Or.inl rfl) (pe_step2 (pv 1) (po_some pe_int)))
      (pss_cons (ps_if (PW.pt (pw_or (pt_cmpR op_gt (pe_op op_fdiv (pv 2) (pv 0)) (pe_glob (v := .int 5) rfl g2 ⟨_, rfl⟩) (nomark _))
          (pw_or (pt_not (pt_val (pe_call Gw hr1 rfl gw kw bw .nil pass0 (pa_cons (pv 3) (pa_cons pe_int (pa_cons (pe_glob (v := .int 60) rfl g3 ⟨_, rfl⟩) pa_nil))))))
          (pw_or1 (pt_not (pt_val (pe_call Gw hr1 rfl gw kw bw .nil pass0 (pa_cons (pv 4) (pa_cons pe_int (pa_cons (pe_glob (v := .int 1000) rfl g4 ⟨_, rfl⟩) pa_nil))))))))))
        (pss_one (ps_ret (pe_lst pa_nil))) pss_nil)
      (pss_one (ps_ret (pe_lst (pa_cons (pe_make MI GI hr rfl T.gF bI .nil pass0 (pa_cons (pv 0) (pa_cons (pv 3) (pa_cons (pv 4) pa_nil)))) pa_nil)))))))), ?_⟩
    have hlen : (nums (flat ps)).length = 2 * ps.length := by rw [nums_len, flat_len2]
    -- many = len(row) // 2
    refine ⟨_, rfl, r, _, rfl, .inl (SqL.of hrow), _, _, rfl, rfl, ⟨by decide, by decide⟩, ?_⟩
    have em : ((nums (flat ps)).length : Int) / 2 = (ps.length : Int) := by
      rw [hlen]
      omega
    show gName 2 (V.int (((nums (flat ps)).length : Int) / 2)) _ _ _
    rw [em]
    dsimp only [gName]
    have bad : Bad wd ps → tRet (tLst tNil) { nx := fun _ H' => Q .non H', rt := Q } [some (.int (wd : Int)), some (.ref r), some (.int (ps.length : Int)), none, none] H := fun hb => by
      refine ⟨by decide, fun p hp => ?_⟩
      exact kB hb p _ (same_upd (Same.refl H) hp) upd_same
    -- not 1 <= wide <= MOST_WIDE
    refine ⟨_, rfl, _, _, rfl, rfl, _, rfl, ?_⟩
    by_cases w1 : wd < 1
    · refine if_false_of (decide_eq_false (by omega)) ⟨_, rfl, if_true_of rfl (iteT (bad (.inl w1)))⟩
    refine if_true_of (decide_eq_true (by omega)) ⟨_, _, rfl, rfl, _, rfl, ?_⟩
    by_cases w5 : 5 < wd
    · exact if_true_of (by simp; omega) (iteT (bad (.inr (.inl w5))))
    refine if_false_of (by simp; omega) ?_
    -- len(row) % 2 == 1
    refine ⟨_, rfl, r, _, rfl, .inl (SqL.of hrow), _, _, rfl, rfl, (by show (0 : Int) < 2; decide), rfl, _, rfl, ?_⟩
    refine if_false_of (decide_eq_false fun e => ?_) ?_
    · have e := V.int.inj e
      rw [hlen] at e
      omega
    -- many == 0
    refine ⟨_, rfl, rfl, _, rfl, ?_⟩
    by_cases pn : ps = []
    · exact if_true_of (by rw [pn]; rfl) (iteT (bad (.inr (.inr (.inl pn)))))
    have pn1 : 0 < ps.length := List.length_pos_iff.mpr pn
    refine if_false_of (decide_eq_false fun e => ?_) ?_
    · have e := V.int.inj e
      omega
    -- many % wide != 0
    refine ⟨_, rfl, _, rfl, _, _, rfl, rfl, (by omega), rfl, _, rfl, ?_⟩
    have ed : ((ps.length : Int) % (wd : Int)) = ((ps.length % wd : Nat) : Int) := by omega
    by_cases pm : ps.length % wd = 0
    · refine if_false_of (by show (!decide (V.int ((ps.length : Int) % (wd : Int)) = V.int 0)) = false; rw [ed, pm]; rfl) ?_
      have e1 := pick_slow ps
      have e2 := pick_worth pn
      -- slownesses = row[::2]
      refine ⟨_, rfl, r, _, rfl, SqL.of hrow, ?_, fun sl hsl => ?_⟩
      · rw [e1, nums_len, List.length_map]
        exact Nat.le_of_lt (big _ (by omega))
      rw [e1]
      have s1 : Same H (upd H sl (.lst (nums (ps.map fun p => p.slow)))) := same_upd (Same.refl H) hsl
      -- worths = row[1::2]
      refine ⟨_, rfl, _, rfl, r, _, rfl, SqL.of (s1 _ _ hrow), ?_, fun wo hwo => ?_⟩
      · rw [e2, nums_len, List.length_map]
        exact Nat.le_of_lt (big _ (by omega))
      rw [e2]
      have s2' : Same (upd H sl (.lst (nums (ps.map fun p => p.slow)))) (upd (upd H sl (.lst (nums (ps.map fun p => p.slow)))) wo (.lst (nums (ps.map fun p => p.worth)))) := same_upd (Same.refl _) hwo
      have s2 := s1.trans s2'
      have bad2 : Bad wd ps → ∀ H3 : Hp, Same H H3 → tRet (tLst tNil) { nx := fun _ H' => Q .non H', rt := Q } [some (.int (wd : Int)), some (.ref r), some (.int (ps.length : Int)), some (.ref sl), some (.ref wo)] H3 := fun hb H3 s3 => by
        refine ⟨by decide, fun p hp => ?_⟩
        exact kB hb p _ (same_upd s3 (s3.free hp)) upd_same
      -- many // wide > MOST_ROWS
      refine ⟨_, rfl, _, rfl, _, _, rfl, rfl, ⟨by omega, by omega⟩, _, _, rfl, rfl, _, rfl, ?_⟩
      have eq : ((ps.length : Int) / (wd : Int)) = ((ps.length / wd : Nat) : Int) := by omega
      have hdm := Nat.div_add_mod ps.length wd
      rw [pm] at hdm
      by_cases p5 : 5 * wd < ps.length
      · refine if_true_of (decide_eq_true ?_) (iteT (bad2 (.inr (.inr (.inr (.inr (.inl p5))))) _ s2))
        rw [eq]
        have : ¬ ps.length / wd ≤ 5 := fun q => by
          have := Nat.mul_le_mul_left wd q
          omega
        omega
      refine if_false_of (decide_eq_false ?_) ?_
      · rw [eq]
        have : ps.length / wd ≤ 5 := Nat.div_le_of_le_mul (by omega)
        omega
      have hall := all_both ps
      -- not are_within(slownesses, 0, SLOWEST)
      refine ⟨_, rfl, sl, _, 0, 60, rfl, s2' _ _ upd_same, by rw [List.length_map]; omega, fun H3 s3 => ⟨_, rfl, ?_⟩⟩
      cases c1 : (ps.map fun p => p.slow).all (within 0 60) with
      | false =>
        refine if_true_of rfl (iteT (bad2 (.inr (.inr (.inr (.inr (.inr ?_))))) _ (s2.trans s3)))
        rw [hall, c1]
        rfl
      | true =>
        refine if_false_of rfl ?_
        refine ⟨_, rfl, wo, _, 0, 1000, rfl, s3 _ _ upd_same, by rw [List.length_map]; omega, fun H4 s4 => ⟨_, rfl, ?_⟩⟩
        cases c2 : (ps.map fun p => p.worth).all (within 0 1000) with
        | false =>
          refine if_true_of rfl (bad2 (.inr (.inr (.inr (.inr (.inr ?_))))) _ (s2.trans (s3.trans s4)))
          rw [hall, c1, c2]
          rfl
        | true =>
          refine if_false_of rfl ?_
          have good : ¬ Bad wd ps := by
            rintro (q | q | q | q | q | q)
            · exact w1 q
            · exact w5 q
            · exact pn q
            · exact q pm
            · exact p5 q
            · rw [hall, c1, c2] at q
              cases q
          have s5 : Same H H4 := s2.trans (s3.trans s4)
          -- Forest(wide, slownesses, worths)
          refine ⟨_, rfl, _, rfl, _, rfl, fun x dx nx nd ne => ?_⟩
          have s6 : Same H4 (upd (upd H4 dx (.own x)) x (.ins CF dx [])) := same_upd (same_upd (Same.refl _) nd) nx
          refine ⟨x, dx, sl, wo, wd, ps, rfl, upd_same, s6 _ _ (s4 _ _ (s3 _ _ (s2' _ _ upd_same))), s6 _ _ (s4 _ _ (s3 _ _ upd_same)), fun H5 wi fi hfi F5 kp => ⟨rfl, ?_⟩⟩
          have s7 : Same H4 H5 := Same.made nx nd kp
          refine ⟨by show 1 ≤ sizeLine; decide, fun p hp => ?_⟩
          have s8 : Same H5 (upd H5 p (.lst [V.ref x])) := same_upd (Same.refl _) hp
          exact kG good p x dx sl wo wi fi _ (s5.trans (s7.trans s8)) upd_same (s5.free nx) (F5.same s8) hsl (s1.free hwo) ((s5.trans s6).free hfi)
    · exact if_true_of (by show (!decide (V.int ((ps.length : Int) % (wd : Int)) = V.int 0)) = true; rw [ed]; simp; omega) (bad (.inr (.inr (.inr (.inl pm)))))
theorem scAreBreaks : FnScope ["forest", "breaks", "k"] ["forest", "breaks"] (defScope sAreBreaks) := ⟨rfl, rfl, rfl, by decide +kernel, rfl, by decide +kernel, by decide +kernel⟩
theorem getD_of {l : List Nat} {k z : Nat} (h : l[k]? = some z) : l.getD k 0 = z := by
  rw [List.getD_eq_getElem?_getD, h]
  rfl
theorem ok_arebreaks {f : Addr} {fd : FuncData} (F : Fun K "are_breaks" "are_breaks" sAreBreaks f fd) (T : Txt K mg CF CD) (mH : MCal P w K mg base 2 CF "has_place" ["self", "place"] (spHas K CF)) : FnOk P w K mg base CX0 3 f fd ["forest", "breaks"] (spAreBreaks K CF) := by
  refine F.ok scAreBreaks (fun vs H Q E h => ?_) (fun cdv A outer s H vs Q E hr h => ?_)
  · obtain ⟨a, b, f, br, rfl, _⟩ := h
    rfl
  · obtain ⟨a, b, f, br, rfl, ⟨dx, s, wo, wi, fi, h⟩, hb, h25, k⟩ := h
    obtain ⟨fh, fdh, mh, bh, Gh⟩ := mH
    refine ⟨_, pss_cons (ps_for PassesOwn.never rfl (pi_range1 rfl T.range (pa_cons (pe_callB call_len_seq (by rfl) T.len PySem.boot_len (pa_cons (pv 1) pa_nil)) pa_nil)) (pg_name (i := 2) scAreBreaks.nd rfl (Or.inl rfl))
        (pss_cons (ps_if (PW.pt (pw_or (pt_not (pt_val (pe_meth (pv 0) T.clF mh Gh hr bh .nil pass0 (pa_cons (pe_ix ix_list (pv 1) (pv 2) (fun _ _ => rfl)) pa_nil))))
            (pw_or1 (pt_cmpR op_in_seq (pe_ix ix_list (pv 1) (pv 2) (fun _ _ => rfl)) (pe_fld (pv 0) rfl) rfl)))) (pss_one (ps_ret pe_bl)) pss_nil)
        (pss_one (ps_if (PW.pt (pw_and (pt_cmpR op_gt (pv 2) pe_int (nomark _)) (pw_and1 (pt_cmpR op_le (pe_ix ix_list (pv 1) (pv 2) (fun _ _ => rfl)) (pe_ix ix_list (pv 1) (pe_op op_sub (pv 2) pe_int) (fun _ _ => rfl)) (nomark _)))))
          (pss_one (ps_ret pe_bl)) pss_nil))))
      (pss_one (ps_ret pe_bl)), ?_⟩
    refine ⟨_, rfl, b, _, rfl, .inl (SqL.of hb), _, rfl, by rw [nums_len]; omega, by rw [nums_len]; omega, ?_⟩
    rw [nums_len]
    refine for_range (lo := 0) (fun j σ H' => ∃ v : Option V, σ = [some (.ref a), some (.ref b), v] ∧ H' = H ∧ (∀ i ∈ br.take j, i < f.places.length ∧ i ∉ f.fires) ∧ ∀ i, i + 1 < j → br.getD i 0 < br.getD (i + 1) 0)
      ⟨none, rfl, rfl, (fun i hi => by simp at hi), fun i hi => by omega⟩ ?_ ?_
    · rintro j σ H1 hj ⟨v, rfl, rfl, q1, q2⟩
      rw [Int.toNat_natCast] at hj
      have ej : (0 : Int) + (j : Int) = (j : Int) := by omega
      rw [ej]
      obtain ⟨z, hz⟩ : ∃ z, br[j]? = some z := ⟨_, List.getElem?_eq_getElem hj⟩
      have zm := List.mem_of_getElem? hz
      have no : f.breaksOk br = false → Q (.bl false) H1 := fun e => by
        rw [e] at k
        exact k
      -- not forest.has_place(breaks[k]) or breaks[k] in forest.fires
      refine ⟨_, rfl, a, dx, _, rfl, h.ob, fF_has, _, rfl, _, rfl, b, _, _, _, rfl, rfl, SqL.of hb, atI_nat (nums_at hz), a, f, z, rfl, ⟨dx, s, wo, wi, fi, h⟩, _, rfl, ?_⟩
      by_cases c1 : z < f.places.length
      · rw [decide_eq_true c1]
        refine if_false_of rfl ?_
        refine ⟨_, rfl, _, rfl, b, _, _, _, rfl, rfl, SqL.of hb, atI_nat (nums_at hz), _, rfl, a, CF, dx, _, _, rfl, h.ob, T.clF, T.nFires, fF_fires, fi, _, rfl, .inl (SqL.of h.fi), rfl, nums_flat _, _, rfl, ?_⟩
        rw [if_neg Bool.false_ne_true, nums_in]
        by_cases c2 : z ∈ f.fires
        · rw [List.contains_iff_mem.mpr c2]
          refine iteT (no ?_)
          rw [← Bool.not_eq_true, Fb.breaksOk_iff]
          exact fun q => (q.2 z zm).2 c2
        · have e2 : f.fires.contains z = false := by
            rw [← Bool.not_eq_true, List.contains_iff_mem]
            exact c2
          rw [e2]
          refine iteF ?_
          have q3 : ∀ i ∈ br.take (j + 1), i < f.places.length ∧ i ∉ f.fires := fun i hi => by
            rw [take_more hz] at hi
            rcases List.mem_append.mp hi with hi | hi
            · exact q1 i hi
            · rw [List.mem_singleton.mp hi]
              exact ⟨c1, c2⟩
          -- k > 0 and breaks[k] <= breaks[k - 1]
          refine ⟨_, rfl, _, _, rfl, rfl, _, rfl, ?_⟩
          by_cases c3 : 0 < j
          · refine if_true_of (decide_eq_true (by omega)) ?_
            obtain ⟨y, hy⟩ : ∃ y, br[j - 1]? = some y := ⟨_, List.getElem?_eq_getElem (by omega)⟩
            refine ⟨_, rfl, _, rfl, b, _, _, _, rfl, rfl, SqL.of hb, atI_nat (nums_at hz), _, rfl, _, rfl, _, _, rfl, rfl, b, _, _, V.int (y : Int), rfl, rfl, SqL.of hb, ?_, _, _, rfl, rfl, _, rfl, ?_⟩
            · have e : (j : Int) - 1 = ((j - 1 : Nat) : Int) := by omega
              rw [e]
              exact atI_nat (nums_at hy)
            have dy := getD_of hy
            have dz := getD_of hz
            by_cases c4 : z ≤ y
            · refine if_true_of (decide_eq_true (by omega)) (no ?_)
              rw [← Bool.not_eq_true, Fb.breaksOk_iff]
              intro q
              have := q.1 (j - 1) (by omega)
              rw [show j - 1 + 1 = j by omega, dy, dz] at this
              omega
            · refine if_false_of (decide_eq_false (by omega)) ⟨_, rfl, rfl, q3, fun i hi => ?_⟩
              by_cases e : i + 1 = j
              · have : i = j - 1 := by omega
                rw [e, this, dy, dz]
                omega
              · exact q2 i (by omega)
          · refine if_false_of (decide_eq_false (by omega)) (iteF ⟨_, rfl, rfl, q3, fun i hi => by omega⟩)
      · rw [decide_eq_false c1]
        refine if_true_of rfl (iteT (no ?_))
        rw [← Bool.not_eq_true, Fb.breaksOk_iff]
        exact fun q => c1 (q.2 z zm).1
    · rintro σ H1 ⟨v, rfl, rfl, q1, q2⟩
      rw [Int.toNat_natCast] at q1 q2
      rw [List.take_length] at q1
      have e : f.breaksOk br = true := Fb.breaksOk_iff.mpr ⟨q2, q1⟩
      rw [e] at k
      exact k
end
end Fw

/-! The methods of Desk: __init__, begin, set_wind, set_fire, put_out -/
namespace Fw
open PySem PySem.Spec PyProof.Rows L2
def dF (a : Addr) : List (Str × V) := [("forest", .ref a)]
theorem dF_forest (a : Addr) : (dF a).lookup ("forest" : Str) = some (.ref a) := lk_here
theorem dF_put (a x : Addr) : putF "forest" (.ref x) (dF a) = dF x := put_here
theorem dF_no {a : Addr} {m : Str} (h : (m == ("forest" : Str)) = false) : (dF a).lookup m = none := (lk_past h).trans rfl
/-- the forest f stands at a, its lists at places that B allows -/
def ForestB (K : PySem.W.Frag) (C : Addr) (B : Addr → Prop) (H : Hp) (a : Addr) (f : Sw96.Forest) : Prop := ∃ dx s wo wi fi, ForestIn K C H a f dx s wo wi fi ∧ B s ∧ B wo ∧ B fi
theorem ForestB.at {K : PySem.W.Frag} {C : Addr} {B : Addr → Prop} {H : Hp} {a : Addr} {f : Sw96.Forest} (h : ForestB K C B H a f) : ForestAt K C H a f := by
  obtain ⟨dx, s, wo, wi, fi, h, _⟩ := h
  exact ⟨dx, s, wo, wi, fi, h⟩
theorem ForestB.same {K : PySem.W.Frag} {C : Addr} {B : Addr → Prop} {H H' : Hp} {a : Addr} {f : Sw96.Forest} (h : ForestB K C B H a f) (e : Same H H') : ForestB K C B H' a f := by
  obtain ⟨dx, s, wo, wi, fi, h, b⟩ := h
  exact ⟨dx, s, wo, wi, fi, h.same e, b⟩
structure DeskIn (K : PySem.W.Frag) (CF CD : Addr) (B : Addr → Prop) (H : Hp) (d : Addr) (f : Sw96.Forest) (dx a : Addr) : Prop where
  ob : H d = some (.ins CD dx (dF a))
  fo : ForestB K CF B H a f
/-- the desk at d has the forest f -/
def DeskAt (K : PySem.W.Frag) (CF CD : Addr) (B : Addr → Prop) (H : Hp) (d : Addr) (f : Sw96.Forest) : Prop := ∃ dx a, DeskIn K CF CD B H d f dx a
theorem DeskIn.same {K : PySem.W.Frag} {CF CD : Addr} {B : Addr → Prop} {H H' : Hp} {d : Addr} {f : Sw96.Forest} {dx a : Addr} (h : DeskIn K CF CD B H d f dx a) (e : Same H H') : DeskIn K CF CD B H' d f dx a := ⟨e _ _ h.ob, h.fo.same e⟩
/-- all but instances stands as it was -/
def KeepN (H H' : Hp) : Prop := ∀ b o, H b = some o → (∀ C dx fs, o ≠ .ins C dx fs) → H' b = some o
theorem KeepN.of {H H' : Hp} (s : Same H H') : KeepN H H' := fun b o e _ => s b o e
theorem KeepN.trans {H H1 H2 : Hp} (a : KeepN H H1) (b : KeepN H1 H2) : KeepN H H2 := fun c o e n => b c o (a c o e n) n
theorem KeepN.upd {H H' : Hp} {a C dx C' dx' : Addr} {fs fs' : List (Str × V)} (k : KeepN H H') (h : H' a = some (.ins C dx fs)) : KeepN H (upd H' a (.ins C' dx' fs')) := fun b o e n => by
  have := k b o e n
  rw [upd_ne (fun z => by rw [z, h] at this; exact n _ _ _ (Option.some.inj this).symm)]
  exact this
theorem KeepN.lst {H H' : Hp} (k : KeepN H H') {b : Addr} {xs : List V} (e : H b = some (.lst xs)) : H' b = some (.lst xs) := k b _ e fun _ _ _ z => by cases z
theorem KeepN.seq {K : PySem.W.Frag} {H H' : Hp} (k : KeepN H H') {a : Addr} {xs : List V} (h : SqL K H a xs) : SqL K H' a xs := by
  rcases h with (h | ⟨o, h⟩) | h
  · exact .inl (.inl (k.lst h))
  · exact .inl (.inr ⟨o, k _ _ h fun _ _ _ z => by cases z⟩)
  · exact .inr h
def outV (a : Sw96.Ans) : List V := (Sw96Neutral.out a).map V.int
theorem outV_ok (v : Int) : outV (Sw96.ok v) = [V.int v] := rfl
theorem outV_one (v : Int) (l : List Nat) : outV ⟨v, [l]⟩ = V.int v :: V.int ((l.length : Nat) : Int) :: nums l := by
  unfold outV Sw96Neutral.out nums
  simp
theorem outV_two (v : Int) (l m : List Nat) : outV ⟨v, [l, m]⟩ = V.int v :: ((V.int ((l.length : Nat) : Int) :: nums l) ++ (V.int ((m.length : Nat) : Int) :: nums m)) := by
  unfold outV Sw96Neutral.out nums
  simp
  rfl
theorem free_upd {X : Hp} {d o : Addr} {v : HO} (h : upd X d v o = none) : X o = none := by
  by_cases e : o = d
  · rw [e, upd_same] at h
    cases h
  · rw [upd_ne e] at h
    exact h
/-- what a method of the desk leaves and hands back -/
def Done (K : PySem.W.Frag) (CF CD : Addr) (B : Addr → Prop) (H : Hp) (d : Addr) (f : Sw96.Forest) (c : Sw96.Call) (Q : VK) : Prop :=
  ∀ (p : Addr) (H' : Hp), H p = none → DeskAt K CF CD B H' d (Sw96.step f c).1 → KeepN H H' → H' p = some (.lst (outV (Sw96.step f c).2)) → Q (.ref p) H'
theorem Done.refuse {K : PySem.W.Frag} {CF CD : Addr} {B : Addr → Prop} {H H' : Hp} {d p : Addr} {f : Sw96.Forest} {c : Sw96.Call} {Q : VK} {v : Int} (h : Done K CF CD B H d f c Q) (e : Sw96.step f c = (f, Sw96.ok v)) (s : Same H H') (hd : DeskAt K CF CD B H d f) (hp : H' p = none) : Q (.ref p) (upd H' p (.lst [V.int v])) := by
  have s2 : Same H (upd H' p (.lst [V.int v])) := same_upd s (s.free hp)
  obtain ⟨dx, a, hd⟩ := hd
  refine h p _ (s.free hp) ?_ (KeepN.of s2) ?_
  · rw [e]
    exact ⟨dx, a, hd.same s2⟩
  · rw [e, upd_same]
    rfl
def spDInit (K : PySem.W.Frag) (CF CD : Addr) : Sp := fun vs H Q _ => ∃ (p dx : Addr), vs = [.ref p] ∧ H p = some (.ins CD dx []) ∧
  ∀ H' : Hp, DeskAt K CF CD (fun _ => True) H' p Sw96.init → (∀ b o, H b = some o → b ≠ p → H' b = some o) → Q .non H'
def spBegin (K : PySem.W.Frag) (CF CD : Addr) : Sp := fun vs H Q _ => ∃ (B : Addr → Prop) (d r : Addr) (f : Sw96.Forest) (wd : Nat) (ps : List Sw96.Place), vs = [.ref d, .int (wd : Int), .ref r] ∧ (∀ x, H x = none → B x) ∧ DeskAt K CF CD B H d f ∧ H r = some (.lst (nums (flat ps))) ∧ ps.length ≤ 25 ∧ Done K CF CD B H d f (.begins wd ps) Q
def spSetWind (K : PySem.W.Frag) (CF CD : Addr) : Sp := fun vs H Q _ => ∃ (B : Addr → Prop) (d r : Addr) (f : Sw96.Forest) (a b c e : Nat), vs = [.ref d, .ref r] ∧ (∀ x, H x = none → B x) ∧ DeskAt K CF CD B H d f ∧ H r = some (.lst (nums [a, b, c, e])) ∧ Done K CF CD B H d f (.wind a b c e) Q
def spSetFire (K : PySem.W.Frag) (CF CD : Addr) : Sp := fun vs H Q _ => ∃ (B : Addr → Prop) (d : Addr) (f : Sw96.Forest) (i : Nat), vs = [.ref d, .int (i : Int)] ∧ (∀ x, H x = none → B x) ∧ DeskAt K CF CD B H d f ∧ Fb.Wf f ∧ Done K CF CD B H d f (.fire i) Q
def spPutOut (K : PySem.W.Frag) (CF CD : Addr) : Sp := fun vs H Q _ => ∃ (B : Addr → Prop) (d : Addr) (f : Sw96.Forest) (i : Nat), vs = [.ref d, .int (i : Int)] ∧ (∀ x, H x = none → B x) ∧ DeskAt K CF CD B H d f ∧ Fb.Wf f ∧ Done K CF CD B H d f (.out i) Q
theorem step_bad {f : Sw96.Forest} {wd : Nat} {ps : List Sw96.Place} (h : Bad wd ps) : Sw96.step f (.begins wd ps) = (f, Sw96.ok (-1)) := if_pos h
theorem step_good {f : Sw96.Forest} {wd : Nat} {ps : List Sw96.Place} (h : ¬ Bad wd ps) : Sw96.step f (.begins wd ps) = (⟨wd, ps, [1, 1, 1, 1], []⟩, Sw96.ok (ps.length : Nat)) := if_neg h
theorem step_nowind {f : Sw96.Forest} {a b c d : Nat} (h : [a, b, c, d].all (within 1 9) = false) : Sw96.step f (.wind a b c d) = (f, Sw96.ok (-1)) := if_pos h
theorem step_wind {f : Sw96.Forest} {a b c d : Nat} (h : [a, b, c, d].all (within 1 9) = true) : Sw96.step f (.wind a b c d) = ({ f with wind := [a, b, c, d] }, Sw96.ok 0) := if_neg (by
  show ¬ [a, b, c, d].all (within 1 9) = false
  rw [h]
  decide)
theorem fires_len {f : Sw96.Forest} (W : Fb.Wf f) : f.fires.length ≤ 25 := Nat.le_trans (Fb.nodup_len _ _ W.fnd fun i hi => (W.flt i hi).1) W.len
theorem out_len {l : List Nat} {i : Nat} (nd : l.Nodup) (h : i ∈ l) : (l.filter fun x => x != i).length = l.length - 1 := by
  rw [← List.Nodup.erase_eq_filter nd i, List.length_erase_of_mem h]
/-- a desk and its forest stand apart -/
theorem desk_ne {K : PySem.W.Frag} {CF CD : Addr} {H : Hp} {d dx a : Addr} {f : Sw96.Forest} {dy s wo wi fi : Addr} (h1 : H d = some (.ins CD dx (dF a))) (h2 : ForestIn K CF H a f dy s wo wi fi) : d ≠ a := by
  refine ne_of h1 h2.ob fun z => ?_
  have e : dF a = fF f.width s wo wi fi := (HO.ins.inj z).2.2
  have := congrArg List.length e
  cases this
section
variable {P : Program} {w : World} {K : PySem.W.Frag} {mg : Str → Option Value} {base : Heap} {CF CD : Addr}
theorem scDInit : FnScope ["self"] ["self"] (defScope sDInit) := ⟨rfl, rfl, rfl, by decide +kernel, rfl, by decide +kernel, by decide +kernel⟩
theorem ok_dinit {f : Addr} {fd : FuncData} (F : Fun K "__init__" "Desk.__init__" sDInit f fd) (T : Txt K mg CF CD) (iF : ICal P w K mg base 1 CF ["self", "wide", "slownesses", "worths"] (spFInit K CF)) : FnOk P w K mg base CX0 3 f fd ["self"] (spDInit K CF CD) := by
  refine F.ok scDInit (fun vs H Q E h => ?_) (fun cdv A outer s H vs Q E hr h => ?_)
  · obtain ⟨p, dx, rfl, _⟩ := h
    rfl
  · obtain ⟨p, dx, rfl, hp, k⟩ := h
    obtain ⟨fI, fdI, MI, bI, GI⟩ := iF
    refine ⟨_, pss_one (ps_fld (pv 0) (pe_make MI GI hr rfl T.gF bI .nil pass0 (pa_cons pe_int (pa_cons (pe_lst pa_nil) (pa_cons (pe_lst pa_nil) pa_nil)))) rfl), ?_⟩
    refine ⟨by decide, fun sl hsl => ⟨by decide, fun wo hwo => ?_⟩⟩
    have s1 : Same H (upd H sl (.lst [])) := same_upd (Same.refl H) hsl
    have s2' : Same (upd H sl (.lst [])) (upd (upd H sl (.lst [])) wo (.lst [])) := same_upd (Same.refl _) hwo
    have s2 := s1.trans s2'
    intro x dy nx nd ne
    have s3' : Same (upd (upd H sl (.lst [])) wo (.lst [])) (upd (upd (upd (upd H sl (.lst [])) wo (.lst [])) dy (.own x)) x (.ins CF dy [])) := same_upd (same_upd (Same.refl _) nd) nx
    refine ⟨x, dy, sl, wo, 1, [], rfl, upd_same, s3' _ _ (s2' _ _ upd_same), s3' _ _ upd_same, fun H4 wi fi hfi h kp => ⟨rfl, ?_⟩⟩
    have s4 : Same H H4 := s2.trans (Same.made nx nd kp)
    refine ⟨_, rfl, p, CD, dx, [], rfl, s4 _ _ hp, T.clD, T.nForest, (by show 0 < 1000; decide), ?_⟩
    have hpx : p ≠ x := ne_of_none (s2 _ _ hp) nx
    have hpv : ∀ b o, H4 b = some o → (∀ C dx, o ≠ .ins C dx []) → b ≠ p := fun b o e n z => by
      rw [z, s4 _ _ hp] at e
      exact n _ _ (Option.some.inj e).symm
    refine k _ ⟨dx, x, upd_same, dy, sl, wo, wi, fi, ⟨?_, ?_, ?_, ?_, ?_⟩, trivial, trivial, trivial⟩ fun b o e hb => ?_
    · rw [upd_ne hpx.symm]
      exact h.ob
    · rw [upd_ne (hpv _ _ h.sl fun _ _ z => by cases z)]
      exact h.sl
    · rw [upd_ne (hpv _ _ h.wo fun _ _ z => by cases z)]
      exact h.wo
    · rcases h.wi with (q | ⟨o, q⟩) | q
      · refine .inl (.inl ?_)
        rw [upd_ne (hpv _ _ q fun _ _ z => by cases z)]
        exact q
      · refine .inl (.inr ⟨o, ?_⟩)
        rw [upd_ne (hpv _ _ q fun _ _ z => by cases z)]
        exact q
      · exact .inr q
    · rw [upd_ne (hpv _ _ h.fi fun _ _ z => by cases z)]
      exact h.fi
    · rw [upd_ne hb]
      exact s4 _ _ e
theorem scBegin : FnScope ["self", "wide", "row", "found"] ["self", "wide", "row"] (defScope sBegin) := ⟨rfl, rfl, rfl, by decide +kernel, rfl, by decide +kernel, by decide +kernel⟩
theorem ok_begin {f : Addr} {fd : FuncData} (F : Fun K "begin" "Desk.begin" sBegin f fd) (T : Txt K mg CF CD) (cF : Cal P w K mg base 3 "forest_of" ["wide", "row"] (spForestOf K CF)) (mS : MCal P w K mg base 1 CF "size" ["self"] (spSize K CF)) : FnOk P w K mg base CX0 4 f fd ["self", "wide", "row"] (spBegin K CF CD) := by
  refine F.ok scBegin (fun vs H Q E h => ?_) (fun cdv A outer s H vs Q E hr h => ?_)
  · obtain ⟨B, d, r, f, wd, ps, rfl, _⟩ := h
    rfl
  · obtain ⟨B, d, r, f, wd, ps, rfl, hB, hd, hrow, h25, k⟩ := h
    obtain ⟨ff, fdf, gf, kf, bf, Gf⟩ := cF
    obtain ⟨fs, fds, ms, bs, Gs⟩ := mS
    have hu := hu_of hr
    have hr1 : Room 1 _ := hr.mono (by decide)
    refine ⟨_, pss_cons (ps_set (i := 3) scBegin.nd rfl (Or.inl rfl) (pe_call Gf hr rfl gf kf bf .nil pass0 (pa_cons (pv 1) (pa_cons (pv 2) pa_nil))))
      (pss_cons (ps_if (pt_cmpR (op_eqNil hu) (pv 3) (pe_lst pa_nil) (nomark _)) (pss_one (ps_ret (pe_lst (pa_cons (pe_un un_neg pe_int) pa_nil)))) pss_nil)
      (pss_cons (ps_fld (pv 0) (pe_ix ix_list (pv 3) pe_int (fun _ _ => rfl)) rfl)
      (pss_one (ps_ret (pe_lst (pa_cons (pe_meth0 (pe_fld (pv 0) rfl) T.clF ms Gs hr1 bs .nil pass0) pa_nil)))))), ?_⟩
    refine ⟨_, rfl, _, rfl, r, wd, ps, rfl, hrow, h25, fun hb p H1 s1 p1 => ?_, fun hb p q dz s wo wi fi H1 s1 p1 hq F1 n1 n2 n3 => ?_⟩
    · refine ⟨_, rfl, by decide, fun e he => ?_⟩
      have s2 : Same H1 (upd H1 e (.lst [])) := same_upd (Same.refl _) he
      refine ⟨p, e, _, rfl, rfl, SqL.of (s2 _ _ p1), SqL.of upd_same, _, rfl, iteT ?_⟩
      refine ⟨1, rfl, by show 1 ≤ sizeLine; decide, fun o ho => ?_⟩
      exact k.refuse (step_bad hb) (s1.trans s2) hd ho
    · refine ⟨_, rfl, by decide, fun e he => ?_⟩
      have s2' : Same H1 (upd H1 e (.lst [])) := same_upd (Same.refl _) he
      have s2 := s1.trans s2'
      have F2 := F1.same s2'
      refine ⟨p, e, _, rfl, rfl, SqL.of (s2' _ _ p1), SqL.of upd_same, _, rfl, iteF ?_⟩
      obtain ⟨dx, a, hd⟩ := hd
      refine ⟨_, rfl, p, _, 0, V.ref q, rfl, rfl, SqL.of (s2' _ _ p1), rfl, _, rfl, d, CD, dx, _, rfl, s2 _ _ hd.ob, T.clD, T.nForest, (by show 1 < 1000; decide), ?_⟩
      rw [dF_put]
      have hdq : d ≠ q := ne_of_none hd.ob hq
      -- the new forest stands
      have h3 : ForestIn K CF (upd (upd H1 e (.lst [])) d (.ins CD dx (dF q))) q ⟨wd, ps, [1, 1, 1, 1], []⟩ dz s wo wi fi := by
        have h := F2
        have hpv : ∀ b o, (upd H1 e (.lst [])) b = some o → (∀ C dx fs, o ≠ .ins C dx fs) → b ≠ d := fun b o eb n z => by
          rw [z, s2 _ _ hd.ob] at eb
          exact n _ _ _ (Option.some.inj eb).symm
        refine ⟨?_, ?_, ?_, ?_, ?_⟩
        · rw [upd_ne hdq.symm]
          exact h.ob
        · rw [upd_ne (hpv _ _ h.sl fun _ _ _ z => by cases z)]
          exact h.sl
        · rw [upd_ne (hpv _ _ h.wo fun _ _ _ z => by cases z)]
          exact h.wo
        · rcases h.wi with (y | ⟨o, y⟩) | y
          · refine .inl (.inl ?_)
            rw [upd_ne (hpv _ _ y fun _ _ _ z => by cases z)]
            exact y
          · refine .inl (.inr ⟨o, ?_⟩)
            rw [upd_ne (hpv _ _ y fun _ _ _ z => by cases z)]
            exact y
          · exact .inr y
        · rw [upd_ne (hpv _ _ h.fi fun _ _ _ z => by cases z)]
          exact h.fi
      have F3 : ForestB K CF B (upd (upd H1 e (.lst [])) d (.ins CD dx (dF q))) q ⟨wd, ps, [1, 1, 1, 1], []⟩ := ⟨dz, s, wo, wi, fi, h3, hB _ n1, hB _ n2, hB _ n3⟩
      have k3 : KeepN H (upd (upd H1 e (.lst [])) d (.ins CD dx (dF q))) := (KeepN.of s2).upd (s2 _ _ hd.ob)
      refine ⟨_, rfl, d, CD, dx, _, _, rfl, upd_same, T.clD, T.nForest, dF_forest q, q, dz, _, rfl, h3.ob, fF_size, q, _, rfl, F3.at, by show 1 ≤ sizeLine; decide, fun o ho => ?_⟩
      have s4 : Same (upd (upd H1 e (.lst [])) d (.ins CD dx (dF q))) (upd (upd (upd H1 e (.lst [])) d (.ins CD dx (dF q))) o (.lst [V.int (ps.length : Nat)])) := same_upd (Same.refl _) ho
      refine k o _ (s2.free (free_upd ho)) ?_ (k3.trans (KeepN.of s4)) ?_
      · rw [step_good hb]
        exact ⟨dx, q, s4 _ _ upd_same, F3.same s4⟩
      · rw [step_good hb, upd_same]
        rfl
theorem scSetWind : FnScope ["self", "numbers"] ["self", "numbers"] (defScope sSetWind) := ⟨rfl, rfl, rfl, by decide +kernel, rfl, by decide +kernel, by decide +kernel⟩
theorem ok_setwind {f : Addr} {fd : FuncData} (F : Fun K "set_wind" "Desk.set_wind" sSetWind f fd) (T : Txt K mg CF CD) (cW : Cal P w K mg base 2 "is_wind" ["numbers"] spIsWind) : FnOk P w K mg base CX0 3 f fd ["self", "numbers"] (spSetWind K CF CD) := by
  refine F.ok scSetWind (fun vs H Q E h => ?_) (fun cdv A outer s H vs Q E hr h => ?_)
  · obtain ⟨B, d, r, f, a, b, c, e, rfl, _⟩ := h
    rfl
  · obtain ⟨B, d, r, f, n1, n2, n3, n4, rfl, hB, hd, hrow, k⟩ := h
    obtain ⟨fw, fdw, gw, kw, bw, Gw⟩ := cW
    refine ⟨_, pss_cons (ps_if (pt_not (pt_val (pe_call Gw hr rfl gw kw bw .nil pass0 (pa_cons (pv 1) pa_nil)))) (pss_one (ps_ret (pe_lst (pa_cons (pe_un un_neg pe_int) pa_nil)))) pss_nil)
      (pss_cons (ps_fld (pe_fld (pv 0) rfl) (pe_callTy call_tuple_of (by rfl) T.tuple (by decide +kernel) (pa_cons (pv 1) pa_nil)) rfl)
      (pss_one (ps_ret (pe_lst (pa_cons pe_int pa_nil))))), ?_⟩
    refine ⟨_, rfl, r, _, rfl, hrow, by show 4 ≤ 1000; decide, fun H1 s1 => ⟨_, rfl, ?_⟩⟩
    cases c : [n1, n2, n3, n4].all (within 1 9) with
    | false =>
      refine if_true_of rfl ⟨1, rfl, by show 1 ≤ sizeLine; decide, fun o ho => ?_⟩
      exact k.refuse (step_nowind c) s1 hd ho
    | true =>
      refine if_false_of rfl ?_
      obtain ⟨dx, a, hd⟩ := hd
      obtain ⟨dy, s, wo, wi, fi, h, b1, b2, b3⟩ := hd.fo
      refine ⟨_, rfl, r, _, rfl, .inl ⟨SqL.of (s1 _ _ hrow), fun t ht => ?_⟩⟩
      have s2' : Same H1 (upd H1 t (.tup (nums [n1, n2, n3, n4]))) := same_upd (Same.refl _) ht
      have s2 := s1.trans s2'
      have h2 := h.same s2
      refine ⟨_, rfl, d, CD, dx, _, _, rfl, s2 _ _ hd.ob, T.clD, T.nForest, dF_forest a, a, CF, dy, _, rfl, h2.ob, T.clF, T.nWind, (by show 5 < 1000; decide), ?_⟩
      rw [fF_putWind]
      have hda : d ≠ a := desk_ne hd.ob h
      have hpv : ∀ b o, (upd H1 t (.tup (nums [n1, n2, n3, n4]))) b = some o → (∀ C dx fs, o ≠ .ins C dx fs) → b ≠ a := fun b o eb n z => by
        rw [z, h2.ob] at eb
        exact n _ _ _ (Option.some.inj eb).symm
      have F3 : ForestB K CF B (upd (upd H1 t (.tup (nums [n1, n2, n3, n4]))) a (.ins CF dy (fF f.width s wo t fi))) a { f with wind := [n1, n2, n3, n4] } := by
        refine ⟨dy, s, wo, t, fi, ⟨upd_same, ?_, ?_, ?_, ?_⟩, b1, b2, b3⟩
        · rw [upd_ne (hpv _ _ h2.sl fun _ _ _ z => by cases z)]
          exact h2.sl
        · rw [upd_ne (hpv _ _ h2.wo fun _ _ _ z => by cases z)]
          exact h2.wo
        · refine SqT.of ?_
          rw [upd_ne (hpv t _ upd_same fun _ _ _ z => by cases z), upd_same]
        · rw [upd_ne (hpv _ _ h2.fi fun _ _ _ z => by cases z)]
          exact h2.fi
      have k3 : KeepN H (upd (upd H1 t (.tup (nums [n1, n2, n3, n4]))) a (.ins CF dy (fF f.width s wo t fi))) := (KeepN.of s2).upd h2.ob
      have d3 : (upd (upd H1 t (.tup (nums [n1, n2, n3, n4]))) a (.ins CF dy (fF f.width s wo t fi))) d = some (.ins CD dx (dF a)) := by
        rw [upd_ne hda]
        exact s2 _ _ hd.ob
      refine ⟨by show 1 ≤ sizeLine; decide, fun o ho => ?_⟩
      refine k o _ (s2.free (free_upd ho)) ?_ (k3.trans (KeepN.of (same_upd (Same.refl _) ho))) ?_
      · rw [step_wind c]
        exact ⟨dx, a, same_upd (Same.refl _) ho _ _ d3, F3.same (same_upd (Same.refl _) ho)⟩
      · rw [step_wind c, upd_same]
        rfl
/-- new fires are set -/
theorem new_fires {H H2 : Hp} {d dx a dy s wo wi fi x : Addr} {f : Sw96.Forest} {l : List Nat} (s2 : Same H H2) (hd : H d = some (.ins CD dx (dF a))) (h : ForestIn K CF H a f dy s wo wi fi) (hx : H2 x = some (.lst (nums l))) :
    ForestIn K CF (upd H2 a (.ins CF dy (fF f.width s wo wi x))) a { f with fires := l } dy s wo wi x ∧ KeepN H (upd H2 a (.ins CF dy (fF f.width s wo wi x))) ∧ (upd H2 a (.ins CF dy (fF f.width s wo wi x))) d = some (.ins CD dx (dF a)) := by
  have h2 := h.same s2
  have hda : d ≠ a := desk_ne hd h
  have hpv : ∀ b o, H2 b = some o → (∀ C dx fs, o ≠ .ins C dx fs) → b ≠ a := fun b o eb n z => by
    rw [z, h2.ob] at eb
    exact n _ _ _ (Option.some.inj eb).symm
  refine ⟨⟨upd_same, ?_, ?_, ?_, ?_⟩, (KeepN.of s2).upd h2.ob, ?_⟩
  · rw [upd_ne (hpv _ _ h2.sl fun _ _ _ z => by cases z)]
    exact h2.sl
  · rw [upd_ne (hpv _ _ h2.wo fun _ _ _ z => by cases z)]
    exact h2.wo
  · rcases h2.wi with (y | ⟨o, y⟩) | y
    · refine .inl (.inl ?_)
      rw [upd_ne (hpv _ _ y fun _ _ _ z => by cases z)]
      exact y
    · refine .inl (.inr ⟨o, ?_⟩)
      rw [upd_ne (hpv _ _ y fun _ _ _ z => by cases z)]
      exact y
    · exact .inr y
  · rw [upd_ne (hpv _ _ hx fun _ _ _ z => by cases z)]
    exact hx
  · rw [upd_ne hda]
    exact s2 _ _ hd
theorem scSetFire : FnScope ["self", "place"] ["self", "place"] (defScope sSetFire) := ⟨rfl, rfl, rfl, by decide +kernel, rfl, by decide +kernel, by decide +kernel⟩
theorem ok_setfire {f : Addr} {fd : FuncData} (F : Fun K "set_fire" "Desk.set_fire" sSetFire f fd) (T : Txt K mg CF CD) (mH : MCal P w K mg base 2 CF "has_place" ["self", "place"] (spHas K CF)) (mB : MCal P w K mg base 1 CF "burns" ["self", "place", "breaks"] (spBurns K CF)) :
    FnOk P w K mg base CX0 3 f fd ["self", "place"] (spSetFire K CF CD) := by
  refine F.ok scSetFire (fun vs H Q E h => ?_) (fun cdv A outer s H vs Q E hr h => ?_)
  · obtain ⟨B, d, f, i, rfl, _⟩ := h
    rfl
  · obtain ⟨B, d, f, i, rfl, hB, hd, W, k⟩ := h
    obtain ⟨fh, fdh, mh, bh, Gh⟩ := mH
    obtain ⟨fb, fdb, mb, bb, Gb⟩ := mB
    have hr1 : Room 1 _ := hr.mono (by decide)
    refine ⟨_, pss_cons (ps_if (pt_not (pt_val (pe_meth (pe_fld (pv 0) rfl) T.clF mh Gh hr bh .nil pass0 (pa_cons (pv 1) pa_nil)))) (pss_one (ps_ret (pe_lst (pa_cons (pe_un un_neg pe_int) pa_nil)))) pss_nil)
      (pss_cons (ps_if (PW.pt (pw_or (pt_cmpR op_in_seq (pv 1) (pe_fld (pe_fld (pv 0) rfl) rfl) rfl) (pw_or1 (pt_not (pt_val (pe_meth (pe_fld (pv 0) rfl) T.clF mb Gb hr1 bb .nil pass0 (pa_cons (pv 1) (pa_cons (pe_lst pa_nil) pa_nil))))))))
        (pss_one (ps_ret (pe_lst (pa_cons (pe_un un_neg pe_int) pa_nil)))) pss_nil)
      (pss_cons (ps_fld (pe_fld (pv 0) rfl) (pe_op op_cat (pe_fld (pe_fld (pv 0) rfl) rfl) (pe_lst (pa_cons (pv 1) pa_nil))) rfl)
      (pss_one (ps_ret (pe_lst (pa_cons (pe_callB call_len_seq (by rfl) T.len PySem.boot_len (pa_cons (pe_fld (pe_fld (pv 0) rfl) rfl) pa_nil)) pa_nil)))))), ?_⟩
    obtain ⟨dx, a, hdi⟩ := id hd
    obtain ⟨dy, s, wo, wi, fi, h, b1, b2, b3⟩ := id hdi.fo
    refine ⟨_, rfl, d, CD, dx, _, _, rfl, hdi.ob, T.clD, T.nForest, dF_forest a, a, dy, _, rfl, h.ob, fF_has, _, rfl, a, f, i, rfl, hdi.fo.at, _, rfl, ?_⟩
    by_cases c1 : i < f.places.length
    · rw [decide_eq_true c1]
      refine if_false_of rfl ?_
      have st : Sw96.step f (.fire i) = if f.fires.contains i = true ∨ f.slow i = 0 then (f, Sw96.ok (-3)) else ({ f with fires := f.fires ++ [i] }, Sw96.ok (f.fires.length + 1 : Nat)) := if_neg (by omega)
      refine ⟨_, rfl, _, rfl, d, CD, dx, _, _, rfl, hdi.ob, T.clD, T.nForest, dF_forest a, a, CF, dy, _, _, rfl, h.ob, T.clF, T.nFires, fF_fires, fi, _, rfl, .inl (SqL.of h.fi), rfl, nums_flat _, _, rfl, ?_⟩
      rw [if_neg Bool.false_ne_true, nums_in]
      cases c2 : f.fires.contains i with
      | true =>
        refine iteT (iteT ⟨3, rfl, by show 1 ≤ sizeLine; decide, fun o ho => ?_⟩)
        exact k.refuse (st.trans (if_pos (.inl c2))) (Same.refl H) hd ho
      | false =>
        refine iteF ?_
        refine ⟨_, rfl, d, CD, dx, _, _, rfl, hdi.ob, T.clD, T.nForest, dF_forest a, a, dy, _, rfl, h.ob, fF_burns, _, rfl, by decide, fun e he => ?_⟩
        have s1 : Same H (upd H e (.lst [])) := same_upd (Same.refl H) he
        have h1 := h.same s1
        refine ⟨a, e, f, i, [], rfl, ⟨dy, s, wo, wi, fi, h1⟩, c1, upd_same, _, rfl, ?_⟩
        by_cases c3 : f.slow i = 0
        · have eb : Fb.burns f [] i = false := by
            unfold Fb.burns
            rw [c3]
            rfl
          rw [eb]
          refine if_true_of rfl ⟨3, rfl, by show 1 ≤ sizeLine; decide, fun o ho => ?_⟩
          exact k.refuse (st.trans (if_pos (.inr c3))) s1 hd ho
        · have eb : Fb.burns f [] i = true := by
            unfold Fb.burns
            rw [decide_eq_true (Nat.pos_of_ne_zero c3)]
            rfl
          rw [eb]
          refine if_false_of rfl ?_
          have st2 := st.trans (if_neg (by rw [c2]; simp [c3]))
          -- self.forest.fires + [place]
          refine ⟨_, rfl, d, CD, dx, _, _, rfl, s1 _ _ hdi.ob, T.clD, T.nForest, dF_forest a, a, CF, dy, _, _, rfl, h1.ob, T.clF, T.nFires, fF_fires, _, rfl, by show 1 ≤ sizeLine; decide, fun o ho => ?_⟩
          have s2' : Same (upd H e (.lst [])) (upd (upd H e (.lst [])) o (.lst [V.int (i : Int)])) := same_upd (Same.refl _) ho
          have h2 := h1.same s2'
          refine ⟨fi, o, _, _, rfl, rfl, h2.fi, upd_same, ?_, fun x hx => ?_⟩
          · rw [nums_len]
            have := fires_len W
            exact Nat.le_of_lt (big _ (by show f.fires.length + 1 ≤ _; omega))
          have e3 : nums f.fires ++ [V.int (i : Int)] = nums (f.fires ++ [i]) := by
            rw [nums_append]
            rfl
          rw [e3]
          have s3' : Same (upd (upd H e (.lst [])) o (.lst [V.int (i : Int)])) (upd (upd (upd H e (.lst [])) o (.lst [V.int (i : Int)])) x (.lst (nums (f.fires ++ [i])))) := same_upd (Same.refl _) hx
          have s3 := s1.trans (s2'.trans s3')
          have h3 := h.same s3
          refine ⟨_, rfl, d, CD, dx, _, _, rfl, s3 _ _ hdi.ob, T.clD, T.nForest, dF_forest a, a, CF, dy, _, rfl, h3.ob, T.clF, T.nFires, (by show 5 < 1000; decide), ?_⟩
          rw [fF_putFires]
          obtain ⟨F4, k4, d4⟩ := new_fires s3 hdi.ob h (l := f.fires ++ [i]) upd_same
          refine ⟨_, rfl, d, CD, dx, _, _, rfl, d4, T.clD, T.nForest, dF_forest a, a, CF, dy, _, _, rfl, F4.ob, T.clF, T.nFires, fF_fires, x, _, rfl, .inl (SqL.of F4.fi), by show 1 ≤ sizeLine; decide, fun y hy => ?_⟩
          refine k y _ (s3.free (free_upd hy)) ?_ (k4.trans (KeepN.of (same_upd (Same.refl _) hy))) ?_
          · rw [st2]
            exact ⟨dx, a, same_upd (Same.refl _) hy _ _ d4, dy, s, wo, wi, x, F4.same (same_upd (Same.refl _) hy), b1, b2, hB _ ((s1.trans s2').free hx)⟩
          · rw [st2, upd_same, nums_len, List.length_append]
            rfl
    · rw [decide_eq_false c1]
      refine if_true_of rfl ⟨2, rfl, by show 1 ≤ sizeLine; decide, fun o ho => ?_⟩
      exact k.refuse (if_pos (by omega)) (Same.refl H) hd ho
theorem scPutOut : FnScope ["self", "place", "other"] ["self", "place"] (defScope sPutOut) := ⟨rfl, rfl, rfl, by decide +kernel, rfl, by decide +kernel, by decide +kernel⟩
theorem ok_putout {f : Addr} {fd : FuncData} (F : Fun K "put_out" "Desk.put_out" sPutOut f fd) (T : Txt K mg CF CD) : FnOk P w K mg base CX0 1 f fd ["self", "place"] (spPutOut K CF CD) := by
  refine F.ok scPutOut (fun vs H Q E h => ?_) (fun cdv A outer s H vs Q E hr h => ?_)
  · obtain ⟨B, d, f, i, rfl, _⟩ := h
    rfl
  · obtain ⟨B, d, f, i, rfl, hB, hd, W, k⟩ := h
    refine ⟨_, pss_cons (ps_if (pt_cmpR op_notIn_seq (pv 1) (pe_fld (pe_fld (pv 0) rfl) rfl) rfl) (pss_one (ps_ret (pe_lst (pa_cons (pe_un un_neg pe_int) pa_nil)))) pss_nil)
      (pss_cons (ps_fld (pe_fld (pv 0) rfl) (pe_lc (own := [("other", 2)]) (g := gName 2) (by rfl) scPutOut.nd (pi_list (pe_fld (pe_fld (pv 0) rfl) rfl))
        (blkOk_by (own := [("other", 2)]) (N := ["self", "place", "other"]) (sc := defScope sPutOut) (by decide +kernel)) (fun _ _ _ _ _ => pg_name (i := 2) scPutOut.nd rfl (Or.inl rfl))
        (fun _ _ _ _ _ => pts_one (pt_cmpR op_ne (pv 2) (pv 1) (nomark _))) (fun _ _ _ _ _ => pv 2)) rfl)
      (pss_one (ps_ret (pe_lst (pa_cons (pe_callB call_len_seq (by rfl) T.len PySem.boot_len (pa_cons (pe_fld (pe_fld (pv 0) rfl) rfl) pa_nil)) pa_nil))))), ?_⟩
    obtain ⟨dx, a, hdi⟩ := id hd
    obtain ⟨dy, s, wo, wi, fi, h, b1, b2, b3⟩ := id hdi.fo
    refine ⟨_, rfl, _, rfl, d, CD, dx, _, _, rfl, hdi.ob, T.clD, T.nForest, dF_forest a, a, CF, dy, _, _, rfl, h.ob, T.clF, T.nFires, fF_fires, fi, _, rfl, .inl (SqL.of h.fi), rfl, nums_flat _, _, rfl, ?_⟩
    rw [if_pos rfl, nums_in]
    cases c2 : f.fires.contains i with
    | false =>
      refine iteT ⟨2, rfl, by show 1 ≤ sizeLine; decide, fun o ho => ?_⟩
      exact k.refuse (if_pos c2) (Same.refl H) hd ho
    | true =>
      refine iteF ?_
      have im : i ∈ f.fires := List.contains_iff_mem.mp c2
      have st : Sw96.step f (.out i) = ({ f with fires := f.fires.filter fun x => x != i }, Sw96.ok (f.fires.length - 1 : Nat)) := if_neg (by rw [c2]; decide)
      refine ⟨_, rfl, d, CD, dx, _, _, rfl, hdi.ob, T.clD, T.nForest, dF_forest a, a, CF, dy, _, _, rfl, h.ob, T.clF, T.nFires, fF_fires, fi, rfl, ⟨_, SqL.of h.fi⟩, fun D hD => ?_⟩
      refine lc_list (K := K) (a := fi) (xs := nums f.fires) (fun j H' => Same H H' ∧ H' D = some (.lst (nums ((f.fires.take j).filter fun x => x != i)))) ⟨same_upd (Same.refl H) hD, upd_same⟩ (fun j H' _ ⟨s1, _⟩ => SqL.of (s1 _ _ h.fi)) ?_ ?_
      · rintro j y H1 hj ⟨s1, d1⟩
        obtain ⟨z, hz, rfl⟩ := nums_get hj
        have tk := take_more hz
        refine ⟨rfl, _, rfl, _, rfl, rfl, _, rfl, ?_⟩
        by_cases e : z = i
        · refine if_false_of (by rw [e]; simp) ⟨s1, ?_⟩
          rw [tk, filter_no (p := fun x => x != i) (by rw [e]; simp)]
          exact d1
        · refine if_true_of (by simpa using fun q => e (by omega)) ?_
          refine ⟨_, rfl, _, d1, ?_, same_upd s1 hD, ?_⟩
          · rw [nums_len]
            refine big _ ?_
            have h1 := filter_len (fun x => x != i) (f.fires.take j)
            have h2 := take_len f.fires j
            have h3 := fires_len W
            omega
          · rw [upd_same, tk, filter_yes (p := fun x => x != i) (by simpa using e), nums_append]
            rfl
      · rintro H1 ⟨s1, d1⟩
        rw [nums_len, List.take_length] at d1
        have h1 := h.same s1
        refine ⟨_, rfl, d, CD, dx, _, _, rfl, s1 _ _ hdi.ob, T.clD, T.nForest, dF_forest a, a, CF, dy, _, rfl, h1.ob, T.clF, T.nFires, (by show 5 < 1000; decide), ?_⟩
        rw [fF_putFires]
        obtain ⟨F4, k4, d4⟩ := new_fires s1 hdi.ob h d1
        refine ⟨_, rfl, d, CD, dx, _, _, rfl, d4, T.clD, T.nForest, dF_forest a, a, CF, dy, _, _, rfl, F4.ob, T.clF, T.nFires, fF_fires, D, _, rfl, .inl (SqL.of F4.fi), by show 1 ≤ sizeLine; decide, fun y hy => ?_⟩
        refine k y _ (s1.free (free_upd hy)) ?_ (k4.trans (KeepN.of (same_upd (Same.refl _) hy))) ?_
        · rw [st]
          exact ⟨dx, a, same_upd (Same.refl _) hy _ _ d4, dy, s, wo, wi, D, F4.same (same_upd (Same.refl _) hy), b1, b2, hB _ hD⟩
        · rw [st, upd_same, nums_len]
          show some (HO.lst [V.int (((f.fires.filter fun x => x != i).length : Nat) : Int)]) = _
          rw [out_len W.fnd im]
          rfl
end
end Fw

/-! The methods of Desk: comes, burnt, best, guards -/
namespace Fw
open PySem PySem.Spec PyProof.Rows L2
def spComes (K : PySem.W.Frag) (CF CD : Addr) : Sp := fun vs H Q _ => ∃ (B : Addr → Prop) (d b : Addr) (f : Sw96.Forest) (br : List Nat), vs = [.ref d, .ref b] ∧ DeskAt K CF CD B H d f ∧ Fb.Wf f ∧ H b = some (.lst (nums br)) ∧ br.length ≤ 25 ∧ Done K CF CD B H d f (.comes br) Q
def spBurnt (K : PySem.W.Frag) (CF CD : Addr) : Sp := fun vs H Q _ => ∃ (B : Addr → Prop) (d b : Addr) (f : Sw96.Forest) (t : Nat) (br : List Nat), vs = [.ref d, .int (t : Int), .ref b] ∧ DeskAt K CF CD B H d f ∧ Fb.Wf f ∧ H b = some (.lst (nums br)) ∧ br.length ≤ 25 ∧ Done K CF CD B H d f (.burnt t br) Q
def spBest (K : PySem.W.Frag) (CF CD : Addr) : Sp := fun vs H Q _ => ∃ (B : Addr → Prop) (d : Addr) (f : Sw96.Forest) (m t : Nat), vs = [.ref d, .int (m : Int), .int (t : Int)] ∧ DeskAt K CF CD B H d f ∧ Fb.Wf f ∧ Done K CF CD B H d f (.best m t) Q
def spGuards (K : PySem.W.Frag) (CF CD : Addr) : Sp := fun vs H Q _ => ∃ (B : Addr → Prop) (d : Addr) (f : Sw96.Forest) (i : Nat), vs = [.ref d, .int (i : Int)] ∧ DeskAt K CF CD B H d f ∧ Fb.Wf f ∧ Done K CF CD B H d f (.safe i) Q
theorem Done.keep {K : PySem.W.Frag} {CF CD : Addr} {B : Addr → Prop} {H H' : Hp} {d p : Addr} {f : Sw96.Forest} {c : Sw96.Call} {Q : VK} {a : Sw96.Ans} (h : Done K CF CD B H d f c Q) (e : Sw96.step f c = (f, a)) (s : Same H H') (hd : DeskAt K CF CD B H d f) (hp0 : H p = none) (hp : H' p = some (.lst (outV a))) : Q (.ref p) H' := by
  obtain ⟨dx, b, hd⟩ := hd
  refine h p _ hp0 ?_ (KeepN.of s) ?_
  · rw [e]
    exact ⟨dx, b, hd.same s⟩
  · rw [e]
    exact hp
theorem burnt_len (f : Sw96.Forest) (b : List Nat) (t : Nat) : (f.burnt b t).length ≤ f.places.length := by
  have := filter_len (fun i => ((f.comes b).getD i none).any fun x => decide (x ≤ t)) (List.range f.places.length)
  rw [List.length_range] at this
  exact this
theorem guards_len (f : Sw96.Forest) (i : Nat) : (f.guards i).length ≤ f.places.length := by
  rw [guards_gcond]
  have := filter_len (gcond f i) (List.range f.places.length)
  rw [List.length_range] at this
  exact this
theorem apart_nil (f : Sw96.Forest) : Fb.Apart f [] := fun i _ h => by cases h
/-- when fire comes, as comes answers it -/
def cm (ks : List Nat) (tm : Nat → Nat) (j : Nat) : Nat := if j ∈ ks then tm j + 1 else 0
section
variable {P : Program} {w : World} {K : PySem.W.Frag} {mg : Str → Option Value} {base : Heap} {CF CD : Addr}
theorem scComes : FnScope ["self", "breaks", "times", "place"] ["self", "breaks"] (defScope sComes) := ⟨rfl, rfl, rfl, by decide +kernel, rfl, by decide +kernel, by decide +kernel⟩
theorem ok_comes {f : Addr} {fd : FuncData} (F : Fun K "comes" "Desk.comes" sComes f fd) (T : Txt K mg CF CD) (cA : Cal P w K mg base 3 "are_breaks" ["forest", "breaks"] (spAreBreaks K CF)) (cT : Cal P w K mg base 4 "times_of" ["forest", "breaks"] (spTimes K CF)) (cD : Cal P w K mg base 1 "told" ["row"] spTold) (mS : MCal P w K mg base 1 CF "size" ["self"] (spSize K CF)) :
    FnOk P w K mg base CX0 5 f fd ["self", "breaks"] (spComes K CF CD) := by
  refine F.ok scComes (fun vs H Q E h => ?_) (fun cdv A outer s H vs Q E hr h => ?_)
  · obtain ⟨B, d, b, f, br, rfl, _⟩ := h
    rfl
  · obtain ⟨B, d, b, f, br, rfl, hd, W, hb, h25, k⟩ := h
    obtain ⟨fa, fda, ga, ka, ba, Ga⟩ := cA
    obtain ⟨ft, fdt, gt, kt, bt, Gt⟩ := cT
    obtain ⟨fo, fdo, go, ko, bo, Go⟩ := cD
    obtain ⟨fs, fds, ms, bs, Gs⟩ := mS
    have hu := hu_of hr
    have hr1 : Room 1 _ := hr.mono (by decide)
    have hr3 : Room 3 _ := hr.mono (by decide)
    refine ⟨_, pss_cons (ps_if (pt_not (pt_val (pe_call Ga hr3 rfl ga ka ba .nil pass0 (pa_cons (pe_fld (pv 0) rfl) (pa_cons (pv 1) pa_nil))))) (pss_one (ps_ret (pe_lst (pa_cons (pe_un un_neg pe_int) pa_nil)))) pss_nil)
      (pss_cons (ps_set (i := 2) scComes.nd rfl (Or.inr rfl) (pe_call Gt hr rfl gt kt bt .nil pass0 (pa_cons (pe_fld (pv 0) rfl) (pa_cons (pv 1) pa_nil))))
      (pss_one (ps_ret (pe_op op_cat (pe_lst (pa_cons (pe_callB call_lenD (by rfl) T.len PySem.boot_len (pa_cons (pv 2) pa_nil)) pa_nil))
        (pe_call Go hr1 rfl go ko bo .nil pass0 (pa_cons (pe_lc (own := [("place", 3)]) (g := gName 3) (tt := tYes) (te := tOp (rI0 fun i j => .int (i + j)) (tDGet2 (tVar 2) (tVar 3) (tUn (rU fun i => .int (-i)) (tC (.int 1)))) (tC (.int 1))) (by rfl) scComes.nd
          (pi_range1 rfl T.range (pa_cons (pe_meth0 (pe_fld (pv 0) rfl) T.clF ms Gs hr1 bs .nil pass0) pa_nil))
          (blkOk_by (own := [("place", 3)]) (N := ["self", "breaks", "times", "place"]) (sc := defScope sComes) (by decide +kernel)) (fun _ _ _ _ _ => pg_name (i := 3) scComes.nd rfl (Or.inl rfl))
          (fun _ _ _ _ _ => pts_nil) (fun _ _ _ _ _ => by exact pe_op op_add (pe_dget2 hu (pv 2) (pv 3) (pe_un un_neg pe_int) ⟨rfl, rfl, rfl, rfl⟩) pe_int)) pa_nil)))))), ?_⟩
    have n25 := W.len
    obtain ⟨dx, a, hdi⟩ := id hd
    obtain ⟨dy, s, wo, wi, fi, h, b1, b2, b3⟩ := id hdi.fo
    refine ⟨_, rfl, d, CD, dx, _, _, rfl, hdi.ob, T.clD, T.nForest, dF_forest a, _, rfl, a, b, f, br, rfl, hdi.fo.at, hb, h25, _, rfl, ?_⟩
    cases c : f.breaksOk br with
    | false =>
      refine if_true_of rfl ⟨2, rfl, by show 1 ≤ sizeLine; decide, fun o ho => ?_⟩
      exact k.refuse (if_pos c) (Same.refl H) hd ho
    | true =>
      refine if_false_of rfl ?_
      refine ⟨_, rfl, d, CD, dx, _, _, rfl, hdi.ob, T.clD, T.nForest, dF_forest a, _, rfl, a, b, f, br, rfl, hdi.fo.at, W, hb, Fb.breaksOk_apart c, fun tt ks tm H1 s1 htt t1 To => ?_⟩
      have st : Sw96.step f (.comes br) = (f, ⟨(ks.length : Nat), [(List.range f.places.length).map (cm ks tm)]⟩) := by
        refine (if_neg (by rw [c]; decide)).trans ?_
        show (f, Sw96.Ans.mk (((f.comes br).filter fun x => x.isSome).length : Nat) [(f.comes br).map fun x => match x with
          | some n => n + 1
          | none => 0]) = _
        rw [To.many]
        exact congrArg (fun l => (f, Sw96.Ans.mk ((ks.length : Nat) : Int) [l])) To.list
      -- [len(times)]
      refine ⟨_, rfl, tt, _, rfl, t1, by show 1 ≤ sizeLine; decide, fun o ho => ?_⟩
      rw [dct_len]
      have s2' : Same H1 (upd H1 o (.lst [V.int (ks.length : Nat)])) := same_upd (Same.refl _) ho
      have s2 := s1.trans s2'
      have h2 := h.same s2
      -- the comprehension
      refine ⟨_, rfl, d, CD, dx, _, _, rfl, s2 _ _ hdi.ob, T.clD, T.nForest, dF_forest a, a, dy, _, rfl, h2.ob, fF_size, a, f, rfl, ⟨dy, s, wo, wi, fi, h2⟩, _, rfl, by omega, by omega, fun D hD => ?_⟩
      refine lc_range (lo := 0) (fun i H' => Same (upd H1 o (.lst [V.int (ks.length : Nat)])) H' ∧ H' D = some (.lst (nums ((List.range i).map (cm ks tm))))) ⟨same_upd (Same.refl _) hD, upd_same⟩ ?_ ?_
      · rintro i H3 hi ⟨s3, d3⟩
        rw [Int.toNat_natCast] at hi
        have ei : (0 : Int) + (i : Int) = (i : Int) := by omega
        rw [ei]
        refine ⟨rfl, ?_⟩
        unfold tYes
        refine iteT ?_
        have t3 := s3 _ _ (s2' _ _ t1)
        have fin : ∀ z : Int, z = ((cm ks tm i : Nat) : Int) → ∃ acc, H3 D = some (.lst acc) ∧ acc.length < sizeLine ∧ Same (upd H1 o (.lst [V.int (ks.length : Nat)])) (upd H3 D (.lst (acc ++ [V.int z]))) ∧ (upd H3 D (.lst (acc ++ [V.int z]))) D = some (.lst (nums ((List.range (i + 1)).map (cm ks tm)))) := by
          rintro z rfl
          refine ⟨_, d3, ?_, same_upd s3 hD, ?_⟩
          · rw [nums_len, List.length_map, List.length_range]
            exact big _ (by omega)
          · rw [upd_same, List.range_succ, List.map_append, nums_append]
            rfl
        by_cases ci : i ∈ ks
        · have g := DGet.k (k := (Sum.inl (i : Int) : Key)) t3
          rw [dct_in ci] at g
          refine ⟨_, rfl, tt, rfl, .inl ⟨_, .inl t3⟩, _, rfl, 1, rfl, some (V.int (tm i : Int)), g, _, _, rfl, rfl, fin _ ?_⟩
          unfold cm
          rw [if_pos ci]
          rfl
        · have g := DGet.k (k := (Sum.inl (i : Int) : Key)) t3
          rw [dct_out ci] at g
          refine ⟨_, rfl, tt, rfl, .inl ⟨_, .inl t3⟩, _, rfl, 1, rfl, none, g, _, _, rfl, rfl, fin _ ?_⟩
          unfold cm
          rw [if_neg ci]
          rfl
      · rintro H3 ⟨s3, d3⟩
        rw [Int.toNat_natCast] at d3
        -- told(..)
        refine ⟨D, _, rfl, d3, by rw [nums_len, List.length_map, List.length_range]; omega, fun p H4 s4 hp p4 => ?_⟩
        refine ⟨o, p, _, _, rfl, rfl, s4 _ _ (s3 _ _ upd_same), p4, ?_, fun q hq => ?_⟩
        · show 1 + ((nums ((List.range f.places.length).map (cm ks tm))).length + 1) ≤ sizeLine
          rw [nums_len, List.length_map, List.length_range]
          exact Nat.le_of_lt (big _ (by omega))
        · refine k.keep st (same_upd (s2.trans (s3.trans s4)) ((s2.trans (s3.trans s4)).free hq)) hd ((s2.trans (s3.trans s4)).free hq) ?_
          rw [upd_same, outV_one, nums_len]
          rfl
theorem scBurnt : FnScope ["self", "last", "breaks"] ["self", "last", "breaks"] (defScope sBurnt) := ⟨rfl, rfl, rfl, by decide +kernel, rfl, by decide +kernel, by decide +kernel⟩
theorem ok_burnt {f : Addr} {fd : FuncData} (F : Fun K "burnt" "Desk.burnt" sBurnt f fd) (T : Txt K mg CF CD) (cA : Cal P w K mg base 3 "are_breaks" ["forest", "breaks"] (spAreBreaks K CF)) (cL : Cal P w K mg base 5 "lost_by" ["forest", "last", "breaks"] (spLost K CF)) (cT : Cal P w K mg base 4 "times_of" ["forest", "breaks"] (spTimes K CF)) (cB : Cal P w K mg base 1 "burnt_by" ["times", "last"] spBurntBy) (cD : Cal P w K mg base 1 "told" ["row"] spTold) :
    FnOk P w K mg base CX0 6 f fd ["self", "last", "breaks"] (spBurnt K CF CD) := by
  refine F.ok scBurnt (fun vs H Q E h => ?_) (fun cdv A outer s H vs Q E hr h => ?_)
  · obtain ⟨B, d, b, f, t, br, rfl, _⟩ := h
    rfl
  · obtain ⟨B, d, b, f, t, br, rfl, hd, W, hb, h25, k⟩ := h
    obtain ⟨fa, fda, ga, ka, ba, Ga⟩ := cA
    obtain ⟨fl, fdl, gl, kl, bl, Gl⟩ := cL
    obtain ⟨ft, fdt, gt, kt, bt, Gt⟩ := cT
    obtain ⟨fb, fdb, gb, kb, bb, Gb⟩ := cB
    obtain ⟨fo, fdo, go, ko, bo, Go⟩ := cD
    obtain ⟨tl, gL⟩ := T.lastTime
    have hr1 : Room 1 _ := hr.mono (by decide)
    have hr3 : Room 3 _ := hr.mono (by decide)
    have hr4 : Room 4 _ := hr.mono (by decide)
    refine ⟨_, pss_cons (ps_if (pt_cmpR op_gt (pv 1) (pe_glob (v := .int 100000) rfl gL ⟨_, rfl⟩) (nomark _)) (pss_one (ps_ret (pe_lst (pa_cons (pe_un un_neg pe_int) pa_nil)))) pss_nil)
      (pss_cons (ps_if (pt_not (pt_val (pe_call Ga hr3 rfl ga ka ba .nil pass0 (pa_cons (pe_fld (pv 0) rfl) (pa_cons (pv 2) pa_nil))))) (pss_one (ps_ret (pe_lst (pa_cons (pe_un un_neg pe_int) pa_nil)))) pss_nil)
      (pss_one (ps_ret (pe_op op_cat (pe_lst (pa_cons (pe_call Gl hr rfl gl kl bl .nil pass0 (pa_cons (pe_fld (pv 0) rfl) (pa_cons (pv 1) (pa_cons (pv 2) pa_nil)))) pa_nil))
        (pe_call Go hr1 rfl go ko bo .nil pass0 (pa_cons (pe_call Gb hr1 rfl gb kb bb .nil pass0 (pa_cons (pe_call Gt hr4 rfl gt kt bt .nil pass0 (pa_cons (pe_fld (pv 0) rfl) (pa_cons (pv 2) pa_nil))) (pa_cons (pv 1) pa_nil))) pa_nil)))))), ?_⟩
    have n25 := W.len
    obtain ⟨dx, a, hdi⟩ := id hd
    refine ⟨_, rfl, _, _, rfl, rfl, _, rfl, ?_⟩
    by_cases c0 : 100000 < t
    · refine if_true_of (decide_eq_true (by omega)) ⟨1, rfl, by show 1 ≤ sizeLine; decide, fun o ho => ?_⟩
      exact k.refuse (if_pos c0) (Same.refl H) hd ho
    refine if_false_of (decide_eq_false (by omega)) ?_
    have st0 : Sw96.step f (.burnt t br) = if f.breaksOk br = false then (f, Sw96.ok (-2)) else (f, ⟨(f.lost br t : Nat), [f.burnt br t]⟩) := if_neg c0
    refine ⟨_, rfl, d, CD, dx, _, _, rfl, hdi.ob, T.clD, T.nForest, dF_forest a, _, rfl, a, b, f, br, rfl, hdi.fo.at, hb, h25, _, rfl, ?_⟩
    cases c : f.breaksOk br with
    | false =>
      refine if_true_of rfl ⟨2, rfl, by show 1 ≤ sizeLine; decide, fun o ho => ?_⟩
      exact k.refuse (st0.trans (if_pos c)) (Same.refl H) hd ho
    | true =>
      refine if_false_of rfl ?_
      have st := st0.trans (if_neg (by rw [c]; decide))
      have ap := Fb.breaksOk_apart c
      refine ⟨_, rfl, d, CD, dx, _, _, rfl, hdi.ob, T.clD, T.nForest, dF_forest a, _, rfl, _, rfl, a, b, f, br, t, rfl, hdi.fo.at, W, hb, ap, fun i hi => ((Fb.breaksOk_iff.mp c).2 i hi).1, h25, fun H1 s1 => ?_⟩
      refine ⟨by show 1 ≤ sizeLine; decide, fun o ho => ?_⟩
      have s2' : Same H1 (upd H1 o (.lst [V.int (f.lost br t : Nat)])) := same_upd (Same.refl _) ho
      have s2 := s1.trans s2'
      have hd2 := hdi.same s2
      refine ⟨_, rfl, d, CD, dx, _, _, rfl, hd2.ob, T.clD, T.nForest, dF_forest a, _, rfl, a, b, f, br, rfl, hd2.fo.at, W, s2 _ _ hb, ap, fun tt ks tm H3 s3 htt t3 To => ?_⟩
      have kl2 : ks.length ≤ f.places.length := Fb.nodup_len _ _ To.nd To.lt
      refine ⟨_, rfl, tt, ks, tm, t, rfl, t3, by omega, fun u L H4 pL hL s4 hu u4 => ?_⟩
      rw [To.burnt hL pL] at u4
      have bl' := burnt_len f br t
      refine ⟨u, _, rfl, u4, by rw [nums_len]; omega, fun p H5 s5 hp p5 => ?_⟩
      refine ⟨o, p, _, _, rfl, rfl, s5 _ _ (s4 _ _ (s3 _ _ upd_same)), p5, ?_, fun q hq => ?_⟩
      · show 1 + ((nums (f.burnt br t)).length + 1) ≤ sizeLine
        rw [nums_len]
        exact Nat.le_of_lt (big _ (by omega))
      · have sA := s2.trans (s3.trans (s4.trans s5))
        refine k.keep st (same_upd sA (sA.free hq)) hd (sA.free hq) ?_
        rw [upd_same, outV_one, nums_len]
        rfl
theorem scBest : FnScope ["self", "most", "last", "least", "sets"] ["self", "most", "last"] (defScope sBest) := ⟨rfl, rfl, rfl, by decide +kernel, rfl, by decide +kernel, by decide +kernel⟩
theorem fold_small (f : Sw96.Forest) (t n : Nat) : ∀ (l : List (List Nat)) (m : Option Sw96.Best), (∀ b ∈ l, b.length ≤ n) → (∀ y, m = some y → y.breaks.length ≤ n) → ∀ y, l.foldl (Fb.bturn f t) m = some y → y.breaks.length ≤ n
  | [], _, _, h, y, e => h y e
  | b :: l, m, hl, h, y, e => by
    refine fold_small f t n l (Fb.bturn f t m b) (fun c hc => hl c (List.mem_cons_of_mem _ hc)) (fun z ez => ?_) y e
    have hb := hl b List.mem_cons_self
    unfold Fb.bturn at ez
    cases m with
    | none =>
      cases ez
      exact hb
    | some y0 =>
      have h0 := h y0 rfl
      dsimp only at ez
      split at ez
      · cases ez
        exact hb
      · split at ez
        · cases ez
          exact h0
        · cases ez
          exact h0
theorem best_small (f : Sw96.Forest) (m t : Nat) : (f.best m t).breaks.length ≤ m := by
  rw [Fb.best_eq]
  obtain ⟨y, hy⟩ := Fb.fold_bturn f t (f.sets m) none (.inl (Fb.sets_ne f m))
  rw [hy]
  refine fold_small f t m (f.sets m) none (fun b hb => ?_) (fun y e => by cases e) y hy
  unfold Sw96.Forest.sets at hb
  obtain ⟨n, hn, hb⟩ := List.mem_flatMap.mp hb
  rw [(Fb.choose_mem hb).1]
  have := List.mem_range.mp hn
  omega
theorem ok_best {f : Addr} {fd : FuncData} (F : Fun K "best" "Desk.best" sBest f fd) (T : Txt K mg CF CD) (cB : Cal P w K mg base 6 "best_of" ["forest", "most", "last"] (spBestOf K CF)) (cD : Cal P w K mg base 1 "told" ["row"] spTold) :
    FnOk P w K mg base CX0 7 f fd ["self", "most", "last"] (spBest K CF CD) := by
  refine F.ok scBest (fun vs H Q E h => ?_) (fun cdv A outer s H vs Q E hr h => ?_)
  · obtain ⟨B, d, f, m, t, rfl, _⟩ := h
    rfl
  · obtain ⟨B, d, f, m, t, rfl, hd, W, k⟩ := h
    obtain ⟨fb, fdb, gb, kb, bb, Gb⟩ := cB
    obtain ⟨fo, fdo, go, ko, bo, Go⟩ := cD
    obtain ⟨tl, gL⟩ := T.lastTime
    obtain ⟨tm, gM⟩ := T.mostBreaks
    have hr1 : Room 1 _ := hr.mono (by decide)
    refine ⟨_, pss_cons (ps_if (PW.pt (pw_or (pt_cmpR op_gt (pv 1) (pe_glob (v := .int 2) rfl gM ⟨_, rfl⟩) (nomark _)) (pw_or1 (pt_cmpR op_gt (pv 2) (pe_glob (v := .int 100000) rfl gL ⟨_, rfl⟩) (nomark _))))) (pss_one (ps_ret (pe_lst (pa_cons (pe_un un_neg pe_int) pa_nil)))) pss_nil)
      (pss_cons (ps_asg (pe_call Gb hr rfl gb kb bb .nil pass0 (pa_cons (pe_fld (pv 0) rfl) (pa_cons (pv 1) (pa_cons (pv 2) pa_nil)))) (pg_unl rfl (pgs_cons (pg_name (i := 3) scBest.nd rfl (Or.inl rfl)) (pgs_cons (pg_name (i := 4) scBest.nd rfl (Or.inl rfl)) pgs_nil))))
      (pss_one (ps_ret (pe_op op_cat (pe_op op_cat (pe_lst (pa_cons (pv 3) pa_nil)) (pe_call Go hr1 rfl go ko bo .nil pass0 (pa_cons (pe_lst (pa_cons (pe_callB call_len_seq (by rfl) T.len PySem.boot_len (pa_cons (pv 4) pa_nil)) pa_nil)) pa_nil)))
        (pe_call Go hr1 rfl go ko bo .nil pass0 (pa_cons (pe_ix ix_list (pv 4) pe_int (fun _ _ => rfl)) pa_nil)))))), ?_⟩
    obtain ⟨dx, a, hdi⟩ := id hd
    refine ⟨_, rfl, _, _, rfl, rfl, _, rfl, ?_⟩
    by_cases c1 : 2 < m
    · refine if_true_of (decide_eq_true (by omega)) (iteT ⟨1, rfl, by show 1 ≤ sizeLine; decide, fun o ho => ?_⟩)
      exact k.refuse (if_pos (.inl c1)) (Same.refl H) hd ho
    refine if_false_of (decide_eq_false (by omega)) ?_
    refine ⟨_, rfl, _, _, rfl, rfl, _, rfl, ?_⟩
    by_cases c2 : 100000 < t
    · refine if_true_of (decide_eq_true (by omega)) ⟨1, rfl, by show 1 ≤ sizeLine; decide, fun o ho => ?_⟩
      exact k.refuse (if_pos (.inr c2)) (Same.refl H) hd ho
    refine if_false_of (decide_eq_false (by omega)) ?_
    have st : Sw96.step f (.best m t) = (f, ⟨((f.best m t).lost : Nat), [[(f.best m t).many], (f.best m t).breaks]⟩) := if_neg (by
      rintro (q | q)
      · exact c1 q
      · exact c2 q)
    refine ⟨_, rfl, d, CD, dx, _, _, rfl, hdi.ob, T.clD, T.nForest, dF_forest a, _, rfl, _, rfl, a, f, m, t, rfl, hdi.fo.at, W, by omega, fun p fo as rows H1 s1 p1 f1 r1 e1 e2 => ?_⟩
    refine ⟨p, _, rfl, SqL.of p1, rfl, _, _, rfl, _, _, rfl, rfl, ?_⟩
    -- the first row
    obtain ⟨ra, ras, rfl, hra⟩ : ∃ ra ras, as = ra :: ras ∧ H1 ra = some (.lst (nums (f.best m t).breaks)) := by
      cases rows with
      | nil => cases e2
      | cons r rs =>
        have e2 : r = (f.best m t).breaks := Option.some.inj e2
        subst e2
        cases as with
        | nil => exact r1.elim
        | cons ra ras => exact ⟨ra, ras, rfl, r1.1⟩
    have blen : (f.best m t).breaks.length ≤ 1000 := by
      have := best_small f m t
      omega
    have alen : (((ra :: ras).map V.ref).length : Int) = (((f.best m t).many : Nat) : Int) := by
      rw [List.length_map, r1.len, e1]
    -- [least]
    refine ⟨_, rfl, by show 1 ≤ sizeLine; decide, fun o1 ho1 => ?_⟩
    have s2' : Same H1 (upd H1 o1 (.lst [V.int ((f.best m t).lost : Nat)])) := same_upd (Same.refl _) ho1
    refine ⟨_, rfl, fo, _, rfl, .inl (SqL.of (s2' _ _ f1)), by show 1 ≤ sizeLine; decide, fun o2 ho2 => ?_⟩
    rw [alen]
    have s3' : Same (upd H1 o1 (.lst [V.int ((f.best m t).lost : Nat)])) (upd (upd H1 o1 (.lst [V.int ((f.best m t).lost : Nat)])) o2 (.lst [V.int ((f.best m t).many : Nat)])) := same_upd (Same.refl _) ho2
    refine ⟨o2, _, rfl, upd_same, by show 1 ≤ 1000; decide, fun o3 H4 s4 ho3 p4 => ?_⟩
    refine ⟨o1, o3, _, _, rfl, rfl, s4 _ _ (s3' _ _ upd_same), p4, by show 1 + 2 ≤ sizeLine; decide, fun o5 ho5 => ?_⟩
    have s5' := same_upd (H := H4) (H1 := H4) (p := o5) (o := .lst ([V.int ((f.best m t).lost : Nat)] ++ (V.int (([V.int ((f.best m t).many : Nat)].length : Nat) : Int) :: [V.int ((f.best m t).many : Nat)]))) (Same.refl _) ho5
    have sB := (s2'.trans (s3'.trans s4)).trans s5'
    -- told(sets[0])
    refine ⟨_, rfl, fo, _, 0, V.ref ra, rfl, rfl, SqL.of (sB _ _ f1), atI_nat (j := 0) rfl, ra, _, rfl, sB _ _ hra, by rw [nums_len]; exact blen, fun o6 H6 s6 ho6 p6 => ?_⟩
    refine ⟨o5, o6, _, _, rfl, rfl, s6 _ _ upd_same, p6, ?_, fun q hq => ?_⟩
    · show 3 + ((nums (f.best m t).breaks).length + 1) ≤ sizeLine
      rw [nums_len]
      exact Nat.le_of_lt (big _ (by omega))
    · have sA := s1.trans (sB.trans s6)
      refine k.keep st (same_upd sA (sA.free hq)) hd (sA.free hq) ?_
      rw [upd_same, outV_two, nums_len]
      rfl
theorem scGuards : FnScope ["self", "place", "found"] ["self", "place"] (defScope sGuards) := ⟨rfl, rfl, rfl, by decide +kernel, rfl, by decide +kernel, by decide +kernel⟩
theorem ok_guards {f : Addr} {fd : FuncData} (F : Fun K "guards" "Desk.guards" sGuards f fd) (T : Txt K mg CF CD) (mH : MCal P w K mg base 2 CF "has_place" ["self", "place"] (spHas K CF)) (cT : Cal P w K mg base 4 "times_of" ["forest", "breaks"] (spTimes K CF)) (cG : Cal P w K mg base 5 "guards_of" ["forest", "place"] (spGuardsOf K CF)) (cD : Cal P w K mg base 1 "told" ["row"] spTold) :
    FnOk P w K mg base CX0 6 f fd ["self", "place"] (spGuards K CF CD) := by
  refine F.ok scGuards (fun vs H Q E h => ?_) (fun cdv A outer s H vs Q E hr h => ?_)
  · obtain ⟨B, d, f, i, rfl, _⟩ := h
    rfl
  · obtain ⟨B, d, f, i, rfl, hd, W, k⟩ := h
    obtain ⟨fh, fdh, mh, bh, Gh⟩ := mH
    obtain ⟨ft, fdt, gt, kt, bt, Gt⟩ := cT
    obtain ⟨fg, fdg, gg, kg, bg, Gg⟩ := cG
    obtain ⟨fo, fdo, go, ko, bo, Go⟩ := cD
    have hu := hu_of hr
    have hr1 : Room 1 _ := hr.mono (by decide)
    have hr2 : Room 2 _ := hr.mono (by decide)
    have hr4 : Room 4 _ := hr.mono (by decide)
    refine ⟨_, pss_cons (ps_if (pt_not (pt_val (pe_meth (pe_fld (pv 0) rfl) T.clF mh Gh hr2 bh .nil pass0 (pa_cons (pv 1) pa_nil)))) (pss_one (ps_ret (pe_lst (pa_cons (pe_un un_neg pe_int) pa_nil)))) pss_nil)
      (pss_cons (ps_if (pt_cmp (pc_dnotin hu (pv 1) (pe_call Gt hr4 rfl gt kt bt .nil pass0 (pa_cons (pe_fld (pv 0) rfl) (pa_cons (pe_lst pa_nil) pa_nil)))) rfl) (pss_one (ps_ret (pe_lst (pa_cons (pe_un un_neg pe_int) pa_nil)))) pss_nil)
      (pss_cons (ps_set (i := 2) scGuards.nd rfl (Or.inl rfl) (pe_call Gg hr rfl gg kg bg .nil pass0 (pa_cons (pe_fld (pv 0) rfl) (pa_cons (pv 1) pa_nil))))
      (pss_one (ps_ret (pe_op op_cat (pe_lst (pa_cons (pe_callB call_len_seq (by rfl) T.len PySem.boot_len (pa_cons (pv 2) pa_nil)) pa_nil)) (pe_call Go hr1 rfl go ko bo .nil pass0 (pa_cons (pv 2) pa_nil))))))), ?_⟩
    have n25 := W.len
    obtain ⟨dx, a, hdi⟩ := id hd
    obtain ⟨dy, s, wo, wi, fi, h, b1, b2, b3⟩ := id hdi.fo
    refine ⟨_, rfl, d, CD, dx, _, _, rfl, hdi.ob, T.clD, T.nForest, dF_forest a, a, dy, _, rfl, h.ob, fF_has, _, rfl, a, f, i, rfl, hdi.fo.at, _, rfl, ?_⟩
    by_cases c1 : i < f.places.length
    · rw [decide_eq_true c1]
      refine if_false_of rfl ?_
      have st0 : Sw96.step f (.safe i) = if ((f.comes []).getD i none).isNone = true then (f, Sw96.ok (-4)) else (f, ⟨((f.guards i).length : Nat), [f.guards i]⟩) := if_neg (by omega)
      refine ⟨_, rfl, _, rfl, d, CD, dx, _, _, rfl, hdi.ob, T.clD, T.nForest, dF_forest a, by decide, fun e he => ?_⟩
      have s1 : Same H (upd H e (.lst [])) := same_upd (Same.refl H) he
      refine ⟨a, e, f, [], rfl, hdi.fo.at.same s1, W, upd_same, apart_nil f, fun tt ks tm H2 s2' htt t2 To => ?_⟩
      have s2 := s1.trans s2'
      refine ⟨tt, _, rfl, DGet.k (k := Sum.inl (i : Int)) t2, _, rfl, ?_⟩
      have en := To.none_iff c1
      by_cases ci : i ∈ ks
      · rw [dct_in ci]
        rw [decide_eq_false (by simpa using ci)] at en
        have st := st0.trans (if_neg (by rw [en]; decide))
        refine iteF ?_
        have hd2 := hdi.same s2
        refine ⟨_, rfl, d, CD, dx, _, _, rfl, hd2.ob, T.clD, T.nForest, dF_forest a, _, rfl, a, f, i, rfl, hd2.fo.at, W, c1, fun p H3 s3' p3 => ?_⟩
        have s3 := s2.trans s3'
        have gl := guards_len f i
        refine ⟨_, rfl, p, _, rfl, .inl (SqL.of p3), by show 1 ≤ sizeLine; decide, fun o ho => ?_⟩
        rw [nums_len]
        have s4' : Same H3 (upd H3 o (.lst [V.int ((f.guards i).length : Nat)])) := same_upd (Same.refl _) ho
        refine ⟨_, rfl, p, _, rfl, s4' _ _ p3, by rw [nums_len]; omega, fun q H5 s5 hq q5 => ?_⟩
        refine ⟨o, q, _, _, rfl, rfl, s5 _ _ upd_same, q5, ?_, fun r hr' => ?_⟩
        · show 1 + ((nums (f.guards i)).length + 1) ≤ sizeLine
          rw [nums_len]
          exact Nat.le_of_lt (big _ (by omega))
        · have sA := s3.trans (s4'.trans s5)
          refine k.keep st (same_upd sA (sA.free hr')) hd (sA.free hr') ?_
          rw [upd_same, outV_one, nums_len]
          rfl
      · rw [dct_out ci]
        rw [decide_eq_true ci] at en
        refine iteT ⟨4, rfl, by show 1 ≤ sizeLine; decide, fun o ho => ?_⟩
        exact k.refuse (st0.trans (if_pos en)) s2 hd ho
    · rw [decide_eq_false c1]
      refine if_true_of rfl ⟨2, rfl, by show 1 ≤ sizeLine; decide, fun o ho => ?_⟩
      exact k.refuse (if_pos (by omega)) (Same.refl H) hd ho
end
end Fw

/-! A line of calls: how it is read; what holds of a forest behind each call. Plain Lean. -/
namespace Fw
open Sw96 (Forest Place Call Ans)
/-! ### a forest stays as it must be -/
theorem wf_init : Fb.Wf Sw96.init where
  w1 := by decide
  w5 := by decide
  full := rfl
  len := by decide
  slow := fun p hp => by cases hp
  worth := fun p hp => by cases hp
  wlen := rfl
  wind := by decide
  fnd := List.nodup_nil
  flt := fun i hi => by cases hi
theorem wf_begins {w : Nat} {ps : List Place} (h : ¬ Bad w ps) : Fb.Wf ⟨w, ps, [1, 1, 1, 1], []⟩ := by
  unfold Bad at h
  simp only [not_or] at h
  obtain ⟨h1, h2, h3, h4, h5, h6⟩ := h
  have h2 : ¬ 5 < w := h2
  have h5 : ¬ 5 * w < ps.length := h5
  have h4 : ps.length % w = 0 := by
    by_cases c : ps.length % w = 0
    · exact c
    · exact absurd c h4
  have h6 : (ps.all fun x => decide (x.slow ≤ Sw96.SLOW) && decide (x.worth ≤ Sw96.WORTH)) = true := by
    cases e : ps.all fun x => decide (x.slow ≤ Sw96.SLOW) && decide (x.worth ≤ Sw96.WORTH)
    · exact absurd e h6
    · rfl
  have h7 : ∀ p ∈ ps, p.slow ≤ 60 ∧ p.worth ≤ 1000 := fun p hp => by
    have := List.all_eq_true.mp h6 p hp
    rw [Bool.and_eq_true, decide_eq_true_iff, decide_eq_true_iff] at this
    exact this
  exact
    { w1 := by show 1 ≤ w; omega
      w5 := by show w ≤ 5; omega
      full := h4
      len := by show ps.length ≤ 25; omega
      slow := fun p hp => (h7 p hp).1
      worth := fun p hp => (h7 p hp).2
      wlen := rfl
      wind := (by decide : ∀ x ∈ [1, 1, 1, 1], 1 ≤ x ∧ x ≤ 9)
      fnd := List.nodup_nil
      flt := fun i hi => by cases hi }
theorem wf_wind {f : Forest} (W : Fb.Wf f) {a b c d : Nat} (h : [a, b, c, d].all (within 1 9) = true) : Fb.Wf { f with wind := [a, b, c, d] } :=
  { W with
    wlen := rfl
    wind := fun x hx => by
      have := List.all_eq_true.mp h x hx
      unfold within at this
      rw [Bool.and_eq_true, decide_eq_true_iff, decide_eq_true_iff] at this
      exact this
    flt := W.flt }
theorem wf_fires {f : Forest} (W : Fb.Wf f) {l : List Nat} (nd : l.Nodup) (h : ∀ i ∈ l, i < f.places.length ∧ f.slow i ≠ 0) : Fb.Wf { f with fires := l } :=
  { W with
    fnd := nd
    flt := h }
theorem wf_step {f : Forest} (W : Fb.Wf f) (x : Call) : Fb.Wf (Sw96.step f x).1 := by
  cases x with
  | begins w ps =>
    by_cases c : Bad w ps
    · rw [step_bad c]
      exact W
    · rw [step_good c]
      exact wf_begins c
  | wind a b c d =>
    cases e : [a, b, c, d].all (within 1 9) with
    | false =>
      rw [step_nowind e]
      exact W
    | true =>
      rw [step_wind e]
      exact wf_wind W e
  | fire i =>
    show Fb.Wf (if f.places.length ≤ i then (f, Sw96.ok (-2)) else if f.fires.contains i = true ∨ f.slow i = 0 then (f, Sw96.ok (-3)) else ({ f with fires := f.fires ++ [i] }, Sw96.ok (f.fires.length + 1 : Nat))).1
    by_cases c1 : f.places.length ≤ i
    · rw [if_pos c1]
      exact W
    · rw [if_neg c1]
      by_cases c2 : f.fires.contains i = true ∨ f.slow i = 0
      · rw [if_pos c2]
        exact W
      · rw [if_neg c2]
        have h1 : i ∉ f.fires := fun h => c2 (.inl (List.contains_iff_mem.mpr h))
        have h2 : f.slow i ≠ 0 := fun h => c2 (.inr h)
        refine wf_fires W ?_ fun j hj => ?_
        · rw [List.nodup_append]
          refine ⟨W.fnd, by simp, ?_⟩
          intro a ha b hb
          rw [List.mem_singleton] at hb
          subst hb
          rintro rfl
          exact h1 ha
        · rcases List.mem_append.mp hj with hj | hj
          · exact W.flt j hj
          · rw [List.mem_singleton.mp hj]
            exact ⟨by omega, h2⟩
  | out i =>
    show Fb.Wf (if f.fires.contains i = false then (f, Sw96.ok (-2)) else ({ f with fires := f.fires.filter fun x => x != i }, Sw96.ok (f.fires.length - 1 : Nat))).1
    by_cases c : f.fires.contains i = false
    · rw [if_pos c]
      exact W
    · rw [if_neg c]
      exact wf_fires W (List.Pairwise.filter _ W.fnd) fun j hj => W.flt j (List.mem_filter.mp hj).1
  | comes b =>
    show Fb.Wf (if f.breaksOk b = false then (f, Sw96.ok (-2)) else (f, _)).1
    by_cases c : f.breaksOk b = false
    · rw [if_pos c]
      exact W
    · rw [if_neg c]
      exact W
  | burnt t b =>
    show Fb.Wf (if Sw96.TIME < t then (f, Sw96.ok (-1)) else if f.breaksOk b = false then (f, Sw96.ok (-2)) else (f, _)).1
    by_cases c : Sw96.TIME < t
    · rw [if_pos c]
      exact W
    · rw [if_neg c]
      by_cases c : f.breaksOk b = false
      · rw [if_pos c]
        exact W
      · rw [if_neg c]
        exact W
  | best k t =>
    show Fb.Wf (if 2 < k ∨ Sw96.TIME < t then (f, Sw96.ok (-1)) else (f, _)).1
    by_cases c : 2 < k ∨ Sw96.TIME < t
    · rw [if_pos c]
      exact W
    · rw [if_neg c]
      exact W
  | safe i =>
    show Fb.Wf (if f.places.length ≤ i then (f, Sw96.ok (-2)) else if ((f.comes []).getD i none).isNone = true then (f, Sw96.ok (-4)) else (f, _)).1
    by_cases c : f.places.length ≤ i
    · rw [if_pos c]
      exact W
    · rw [if_neg c]
      by_cases c : ((f.comes []).getD i none).isNone = true
      · rw [if_pos c]
        exact W
      · rw [if_neg c]
        exact W
/-! ### reading -/
def toI (l : List Nat) : List Int := l.map fun i : Nat => (i : Int)
theorem placesIn_flat : ∀ {n : Nat} {l : List Nat} {ps : List Place}, Sw96Neutral.placesIn n l = some ps → l = flat ps ∧ ps.length = n
  | 0, [], ps, h => by
    cases h
    exact ⟨rfl, rfl⟩
  | 0, _ :: _, ps, h => by cases h
  | n + 1, [], ps, h => by cases h
  | n + 1, [_], ps, h => by cases h
  | n + 1, a :: b :: l, ps, h => by
    have h : (Sw96Neutral.placesIn n l).map (fun r => (⟨a, b⟩ : Place) :: r) = some ps := h
    cases e : Sw96Neutral.placesIn n l with
    | none =>
      rw [e] at h
      cases h
    | some r =>
      rw [e] at h
      cases h
      obtain ⟨h1, h2⟩ := placesIn_flat e
      subst h1
      exact ⟨rfl, by rw [List.length_cons, h2]⟩
theorem rows0 {r t : List Int} {xs : List (List Int)} (h : PyFlat.rows 0 r = some (xs, t)) : xs = [] ∧ t = r := by
  cases h
  exact ⟨rfl, rfl⟩
theorem rows1 {r t : List Int} {xs : List (List Int)} (h : PyFlat.rows 1 r = some (xs, t)) : ∃ m r', r = m :: r' ∧ 0 ≤ m ∧ m.toNat ≤ r'.length ∧ xs = [r'.take m.toNat] ∧ t = r'.drop m.toNat := by
  cases r with
  | nil => cases h
  | cons m r' =>
    refine ⟨m, r', rfl, ?_⟩
    unfold PyFlat.rows PyFlat.row at h
    dsimp only at h
    by_cases c : 0 ≤ m ∧ m.toNat ≤ r'.length
    · rw [if_pos c] at h
      have h : some ([r'.take m.toNat], r'.drop m.toNat) = some (xs, t) := h
      cases h
      exact ⟨c.1, c.2, rfl, rfl⟩
    · rw [if_neg c] at h
      cases h
theorem call_inv {p : Int} {r t : List Int} {c : List (List Int)} {n k : Nat} (hs : PySw96.shape p = some (n, k)) (h : PyFlat.call PySw96.shape (p :: r) = some (c, t)) : n ≤ r.length ∧ ∃ xs, PyFlat.rows k (r.drop n) = some (xs, t) ∧ c = (p :: r.take n) :: xs := by
  unfold PyFlat.call at h
  dsimp only at h
  rw [hs] at h
  dsimp only at h
  by_cases c1 : r.length < n
  · rw [if_pos c1] at h
    cases h
  · rw [if_neg c1] at h
    refine ⟨by omega, ?_⟩
    cases e : PyFlat.rows k (r.drop n) with
    | none =>
      rw [e] at h
      cases h
    | some q =>
      obtain ⟨xs, t'⟩ := q
      rw [e] at h
      cases h
      exact ⟨xs, rfl, rfl⟩
theorem calls_inv {fuel : Nat} {p : Int} {r : List Int} {raw : List (List (List Int))} (h : PyFlat.calls PySw96.shape fuel (p :: r) = some raw) : ∃ f c t cs, PyFlat.call PySw96.shape (p :: r) = some (c, t) ∧ PyFlat.calls PySw96.shape f t = some cs ∧ raw = c :: cs := by
  cases fuel with
  | zero => cases h
  | succ f =>
    unfold PyFlat.calls at h
    cases e : PyFlat.call PySw96.shape (p :: r) with
    | none =>
      rw [e] at h
      cases h
    | some q =>
      obtain ⟨c, t⟩ := q
      rw [e] at h
      dsimp only at h
      cases e2 : PyFlat.calls PySw96.shape f t with
      | none =>
        rw [e2] at h
        cases h
      | some cs =>
        rw [e2] at h
        cases h
        exact ⟨f, c, t, cs, rfl, e2, rfl⟩
theorem calls_nil {fuel : Nat} {raw : List (List (List Int))} (h : PyFlat.calls PySw96.shape fuel [] = some raw) : raw = [] := by
  cases fuel <;> cases h <;> rfl
/-- calls with a list -/
def RowCall (word : Nat) (ns row : List Nat) (x : Call) : Prop :=
  (word = 0 ∧ ∃ wd ps, ns = [wd] ∧ row = flat ps ∧ ps.length ≤ 25 ∧ x = .begins wd ps) ∨ (word = 4 ∧ ns = [] ∧ row.length ≤ 25 ∧ x = .comes row) ∨ (word = 5 ∧ ∃ t, ns = [t] ∧ row.length ≤ 25 ∧ x = .burnt t row)
/-- calls of numbers alone -/
def PlainCall (word : Nat) (ns : List Nat) (x : Call) : Prop :=
  (word = 1 ∧ ∃ a b c d, ns = [a, b, c, d] ∧ x = .wind a b c d) ∨ (word = 2 ∧ ∃ i, ns = [i] ∧ x = .fire i) ∨ (word = 3 ∧ ∃ i, ns = [i] ∧ x = .out i) ∨ (word = 6 ∧ ∃ k t, ns = [k, t] ∧ x = .best k t) ∨ (word = 7 ∧ ∃ i, ns = [i] ∧ x = .safe i)
/-- how many numbers a call has -/
def table : List Nat := [1, 4, 1, 1, 0, 1, 2, 1]
/-- the first call of a rest, as the program reads it -/
inductive Reads (p : Int) (r : List Int) (x : Call) (t : List Int) : Prop
  | plain (word n : Nat) (ns : List Nat) : p = (word : Int) → table[word]? = some n → [0, 4, 5].contains word = false → n ≤ r.length → r.take n = toI ns → t = r.drop n → PlainCall word ns x → Reads p r x t
  | row (word n m : Nat) (ns row : List Nat) (r' : List Int) : p = (word : Int) → table[word]? = some n → [0, 4, 5].contains word = true → n ≤ r.length → r.take n = toI ns → r.drop n = (m : Int) :: r' → m ≤ r'.length → r'.take m = toI row → t = r'.drop m → RowCall word ns row x → Reads p r x t
theorem nat_of {z : Int} (h : Sw96Neutral.nat z = true) : ((z.toNat : Nat) : Int) = z := by
  unfold Sw96Neutral.nat at h
  rw [Bool.and_eq_true, decide_eq_true_iff, decide_eq_true_iff] at h
  omega
theorem nats_of {l : List Int} (h : l.all Sw96Neutral.nat = true) : toI (l.map Int.toNat) = l := by
  unfold toI
  rw [List.map_map]
  have : ∀ x ∈ l, ((fun i : Nat => (i : Int)) ∘ Int.toNat) x = id x := fun x hx => nat_of (List.all_eq_true.mp h x hx)
  rw [List.map_congr_left this, List.map_id]
theorem callOf_inv {l : List Int} {x : Call} (h : Sw96Neutral.callOf l = some x) : l.all Sw96Neutral.nat = true ∧ Sw96Neutral.callIn (l.map Int.toNat) = some x := by
  unfold Sw96Neutral.callOf at h
  cases e : l.all Sw96Neutral.nat with
  | false =>
    rw [e, if_pos rfl] at h
    cases h
  | true =>
    rw [e, if_neg (by decide)] at h
    exact ⟨rfl, h⟩
theorem reads {p : Int} {r t : List Int} {c : List (List Int)} {x : Call} (h : PyFlat.call PySw96.shape (p :: r) = some (c, t)) (hx : Sw96Neutral.callOf ((PySw96.whole c).headD []) = some x) : Reads p r x t := by
  by_cases p0 : p = 0
  · subst p0
    obtain ⟨hn, xs, hr, rfl⟩ := call_inv (n := 1) (k := 1) rfl h
    obtain ⟨m, r', e1, m0, hm, rfl, rfl⟩ := rows1 hr
    match r, hn with
    | x0 :: r1, _ =>
      have e1 : r1 = m :: r' := e1
      subst e1
      obtain ⟨h1, h2⟩ := callOf_inv hx
      have h1 : (0 :: x0 :: (((r'.take m.toNat).length : Int) / 2) :: (r'.take m.toNat)).all Sw96Neutral.nat = true := h1
      rw [List.all_cons, List.all_cons, List.all_cons, Bool.and_eq_true, Bool.and_eq_true, Bool.and_eq_true] at h1
      obtain ⟨_, hx0, _, hrow⟩ := h1
      have h2 : (if (((r'.take m.toNat).length : Int) / 2).toNat ≤ 25 then (Sw96Neutral.placesIn (((r'.take m.toNat).length : Int) / 2).toNat ((r'.take m.toNat).map Int.toNat)).map fun q => Call.begins x0.toNat q else none) = some x := h2
      by_cases c25 : (((r'.take m.toNat).length : Int) / 2).toNat ≤ 25
      · rw [if_pos c25] at h2
        cases e : Sw96Neutral.placesIn (((r'.take m.toNat).length : Int) / 2).toNat ((r'.take m.toNat).map Int.toNat) with
        | none =>
          rw [e] at h2
          cases h2
        | some ps =>
          rw [e] at h2
          cases h2
          obtain ⟨g1, g2⟩ := placesIn_flat e
          refine .row 0 1 m.toNat [x0.toNat] ((r'.take m.toNat).map Int.toNat) r' rfl rfl rfl (by simp) ?_ ?_ hm (nats_of hrow).symm rfl (.inl ⟨rfl, _, ps, rfl, g1, by omega, rfl⟩)
          · show [x0] = [((x0.toNat : Nat) : Int)]
            rw [nat_of hx0]
          · show m :: r' = ((m.toNat : Nat) : Int) :: r'
            rw [Int.toNat_of_nonneg m0]
      · rw [if_neg c25] at h2
        cases h2
  by_cases p1 : p = 1
  · subst p1
    obtain ⟨hn, xs, hr, rfl⟩ := call_inv (n := 4) (k := 0) rfl h
    obtain ⟨rfl, rfl⟩ := rows0 hr
    match r, hn with
    | x0 :: x1 :: x2 :: x3 :: r4, hn =>
      obtain ⟨h1, h2⟩ := callOf_inv hx
      have h1 : ([1, x0, x1, x2, x3] : List Int).all Sw96Neutral.nat = true := h1
      have h2 : some (Call.wind x0.toNat x1.toNat x2.toNat x3.toNat) = some x := h2
      cases h2
      have e := nats_of h1
      have e' : toI [x0.toNat, x1.toNat, x2.toNat, x3.toNat] = [x0, x1, x2, x3] := (List.cons.inj e).2
      exact .plain 1 4 [x0.toNat, x1.toNat, x2.toNat, x3.toNat] rfl rfl rfl hn e'.symm rfl (.inl ⟨rfl, _, _, _, _, rfl, rfl⟩)
  by_cases p2 : p = 2
  · subst p2
    obtain ⟨hn, xs, hr, rfl⟩ := call_inv (n := 1) (k := 0) rfl h
    obtain ⟨rfl, rfl⟩ := rows0 hr
    match r, hn with
    | x0 :: r4, hn =>
      obtain ⟨h1, h2⟩ := callOf_inv hx
      have h1 : ([2, x0] : List Int).all Sw96Neutral.nat = true := h1
      have h2 : some (Call.fire x0.toNat) = some x := h2
      cases h2
      have e' : toI [x0.toNat] = [x0] := (List.cons.inj (nats_of h1)).2
      exact .plain 2 1 [x0.toNat] rfl rfl rfl hn e'.symm rfl (.inr (.inl ⟨rfl, _, rfl, rfl⟩))
  by_cases p3 : p = 3
  · subst p3
    obtain ⟨hn, xs, hr, rfl⟩ := call_inv (n := 1) (k := 0) rfl h
    obtain ⟨rfl, rfl⟩ := rows0 hr
    match r, hn with
    | x0 :: r4, hn =>
      obtain ⟨h1, h2⟩ := callOf_inv hx
      have h1 : ([3, x0] : List Int).all Sw96Neutral.nat = true := h1
      have h2 : some (Call.out x0.toNat) = some x := h2
      cases h2
      have e' : toI [x0.toNat] = [x0] := (List.cons.inj (nats_of h1)).2
      exact .plain 3 1 [x0.toNat] rfl rfl rfl hn e'.symm rfl (.inr (.inr (.inl ⟨rfl, _, rfl, rfl⟩)))
  by_cases p4 : p = 4
  · subst p4
    obtain ⟨hn, xs, hr, rfl⟩ := call_inv (n := 0) (k := 1) rfl h
    obtain ⟨m, r', e1, m0, hm, rfl, rfl⟩ := rows1 hr
    have e1 : r = m :: r' := e1
    subst e1
    obtain ⟨h1, h2⟩ := callOf_inv hx
    have h1 : (4 :: ((r'.take m.toNat).length : Int) :: (r'.take m.toNat)).all Sw96Neutral.nat = true := h1
    rw [List.all_cons, List.all_cons, Bool.and_eq_true, Bool.and_eq_true] at h1
    obtain ⟨_, _, hrow⟩ := h1
    have h2 : (if ((r'.take m.toNat).length : Int).toNat ≤ 25 ∧ ((r'.take m.toNat).map Int.toNat).length = ((r'.take m.toNat).length : Int).toNat then some ((r'.take m.toNat).map Int.toNat) else none).map Call.comes = some x := h2
    by_cases c25 : ((r'.take m.toNat).length : Int).toNat ≤ 25 ∧ ((r'.take m.toNat).map Int.toNat).length = ((r'.take m.toNat).length : Int).toNat
    · rw [if_pos c25] at h2
      cases h2
      refine .row 4 0 m.toNat [] ((r'.take m.toNat).map Int.toNat) r' rfl rfl rfl (by simp) rfl ?_ hm (nats_of hrow).symm rfl (.inr (.inl ⟨rfl, rfl, ?_, rfl⟩))
      · show m :: r' = ((m.toNat : Nat) : Int) :: r'
        rw [Int.toNat_of_nonneg m0]
      · rw [c25.2]
        exact c25.1
    · rw [if_neg c25] at h2
      cases h2
  by_cases p5 : p = 5
  · subst p5
    obtain ⟨hn, xs, hr, rfl⟩ := call_inv (n := 1) (k := 1) rfl h
    obtain ⟨m, r', e1, m0, hm, rfl, rfl⟩ := rows1 hr
    match r, hn with
    | x0 :: r1, _ =>
      have e1 : r1 = m :: r' := e1
      subst e1
      obtain ⟨h1, h2⟩ := callOf_inv hx
      have h1 : (5 :: x0 :: ((r'.take m.toNat).length : Int) :: (r'.take m.toNat)).all Sw96Neutral.nat = true := h1
      rw [List.all_cons, List.all_cons, List.all_cons, Bool.and_eq_true, Bool.and_eq_true, Bool.and_eq_true] at h1
      obtain ⟨_, hx0, _, hrow⟩ := h1
      have h2 : (if ((r'.take m.toNat).length : Int).toNat ≤ 25 ∧ ((r'.take m.toNat).map Int.toNat).length = ((r'.take m.toNat).length : Int).toNat then some ((r'.take m.toNat).map Int.toNat) else none).map (fun b => Call.burnt x0.toNat b) = some x := h2
      by_cases c25 : ((r'.take m.toNat).length : Int).toNat ≤ 25 ∧ ((r'.take m.toNat).map Int.toNat).length = ((r'.take m.toNat).length : Int).toNat
      · rw [if_pos c25] at h2
        cases h2
        refine .row 5 1 m.toNat [x0.toNat] ((r'.take m.toNat).map Int.toNat) r' rfl rfl rfl (by simp) ?_ ?_ hm (nats_of hrow).symm rfl (.inr (.inr ⟨rfl, _, rfl, ?_, rfl⟩))
        · show [x0] = [((x0.toNat : Nat) : Int)]
          rw [nat_of hx0]
        · show m :: r' = ((m.toNat : Nat) : Int) :: r'
          rw [Int.toNat_of_nonneg m0]
        · rw [c25.2]
          exact c25.1
      · rw [if_neg c25] at h2
        cases h2
  by_cases p6 : p = 6
  · subst p6
    obtain ⟨hn, xs, hr, rfl⟩ := call_inv (n := 2) (k := 0) rfl h
    obtain ⟨rfl, rfl⟩ := rows0 hr
    match r, hn with
    | x0 :: x1 :: r4, hn =>
      obtain ⟨h1, h2⟩ := callOf_inv hx
      have h1 : ([6, x0, x1] : List Int).all Sw96Neutral.nat = true := h1
      have h2 : some (Call.best x0.toNat x1.toNat) = some x := h2
      cases h2
      have e' : toI [x0.toNat, x1.toNat] = [x0, x1] := (List.cons.inj (nats_of h1)).2
      exact .plain 6 2 [x0.toNat, x1.toNat] rfl rfl rfl hn e'.symm rfl (.inr (.inr (.inr (.inl ⟨rfl, _, _, rfl, rfl⟩))))
  by_cases p7 : p = 7
  · subst p7
    obtain ⟨hn, xs, hr, rfl⟩ := call_inv (n := 1) (k := 0) rfl h
    obtain ⟨rfl, rfl⟩ := rows0 hr
    match r, hn with
    | x0 :: r4, hn =>
      obtain ⟨h1, h2⟩ := callOf_inv hx
      have h1 : ([7, x0] : List Int).all Sw96Neutral.nat = true := h1
      have h2 : some (Call.safe x0.toNat) = some x := h2
      cases h2
      have e' : toI [x0.toNat] = [x0] := (List.cons.inj (nats_of h1)).2
      exact .plain 7 1 [x0.toNat] rfl rfl rfl hn e'.symm rfl (.inr (.inr (.inr (.inr ⟨rfl, _, rfl, rfl⟩))))
  · have e : PySw96.shape p = none := by
      unfold PySw96.shape
      rw [if_neg p0, if_neg p1, if_neg p2, if_neg p3, if_neg p4, if_neg p5, if_neg p6, if_neg p7]
    unfold PyFlat.call at h
    dsimp only at h
    rw [e] at h
    cases h
/-- one call of the specification's machine -/
def stepN (s : Forest) (c : List (List Int)) : Forest × List Int := Sw96Neutral.step s (c.headD [])
theorem stepN_of {f : Forest} {c : List (List Int)} {x : Call} (h : Sw96Neutral.callOf (c.headD []) = some x) : stepN f c = ((Sw96.step f x).1, Sw96Neutral.out (Sw96.step f x).2) := by
  unfold stepN Sw96Neutral.step
  rw [h]
theorem played_cons (f : Forest) (c : List (List Int)) (cs : List (List (List Int))) {x : Call} (h : Sw96Neutral.callOf (c.headD []) = some x) :
    PyFlat.told (PyFlat.played stepN f (c :: cs)) = ((Sw96Neutral.out (Sw96.step f x).2).length : Int) :: (Sw96Neutral.out (Sw96.step f x).2 ++ PyFlat.told (PyFlat.played stepN (Sw96.step f x).1 cs)) := by
  show PyFlat.told ((stepN f c).2 :: PyFlat.played stepN (stepN f c).1 cs) = _
  rw [stepN_of h]
  rfl
/-- what is still to be done -/
structure Left (l : List Int) (at_ : Nat) (f : Forest) (xs : List Int) : Prop where
  ex : ∃ fuel raw, PyFlat.calls PySw96.shape fuel (l.drop at_) = some raw ∧ (∀ c ∈ raw, (Sw96Neutral.callOf ((PySw96.whole c).headD [])).isSome = true) ∧ xs ++ PyFlat.told (PyFlat.played stepN f (raw.map PySw96.whole)) = PySw96.answers l
  le : at_ ≤ l.length
theorem Left.start {l : List Int} (h : PySw96.answers_asked l = true) : Left l 0 Sw96.init [] ∧ (PySw96.answers l).length ≤ 10000000 := by
  unfold PySw96.answers_asked at h
  cases e : PyFlat.calls PySw96.shape l.length l with
  | none =>
    rw [e] at h
    cases h
  | some raw =>
    rw [e] at h
    dsimp only at h
    rw [Bool.and_eq_true, Bool.and_eq_true, Bool.and_eq_true, Bool.and_eq_true] at h
    obtain ⟨⟨⟨⟨_, _⟩, _⟩, ha⟩, hs⟩ := h
    refine ⟨⟨⟨l.length, raw, e, fun c hc => ?_, ?_⟩, Nat.zero_le _⟩, of_decide_eq_true hs⟩
    · unfold Sw96Neutral.asked at ha
      rw [Bool.and_eq_true] at ha
      exact List.all_eq_true.mp ha.1 _ (List.mem_map.mpr ⟨_, List.mem_map.mpr ⟨c, hc, rfl⟩, rfl⟩)
    · unfold PySw96.answers PySw96.calls
      rw [e]
      rfl
theorem Left.done {l : List Int} {at_ : Nat} {f : Forest} {xs : List Int} (h : Left l at_ f xs) (e : l.length ≤ at_) : xs = PySw96.answers l := by
  obtain ⟨fuel, raw, h1, _, h3⟩ := h.ex
  rw [List.drop_eq_nil_of_le e] at h1
  rw [calls_nil h1] at h3
  rw [← h3]
  exact (List.append_nil _).symm
theorem Left.turn {l : List Int} {at_ : Nat} {f : Forest} {xs : List Int} (h : Left l at_ f xs) (hlt : at_ < l.length) : ∃ p r x t, l.drop at_ = p :: r ∧ Reads p r x t ∧
    (xs ++ (((Sw96Neutral.out (Sw96.step f x).2).length : Int) :: Sw96Neutral.out (Sw96.step f x).2)).length ≤ (PySw96.answers l).length ∧
    ∀ e, e ≤ l.length → l.drop e = t → Left l e (Sw96.step f x).1 (xs ++ (((Sw96Neutral.out (Sw96.step f x).2).length : Int) :: Sw96Neutral.out (Sw96.step f x).2)) := by
  obtain ⟨fuel, raw, h1, h2, h3⟩ := h.ex
  have ed : l.drop at_ = l[at_] :: l.drop (at_ + 1) := List.drop_eq_getElem_cons hlt
  rw [ed] at h1
  obtain ⟨f', c, t, cs, g1, g2, rfl⟩ := calls_inv h1
  obtain ⟨x, hx⟩ := Option.isSome_iff_exists.mp (h2 c List.mem_cons_self)
  rw [List.map_cons, played_cons _ _ _ hx] at h3
  have h4 : (xs ++ (((Sw96Neutral.out (Sw96.step f x).2).length : Int) :: Sw96Neutral.out (Sw96.step f x).2)) ++ PyFlat.told (PyFlat.played stepN (Sw96.step f x).1 (cs.map PySw96.whole)) = PySw96.answers l := by
    rw [List.append_assoc]
    exact h3
  refine ⟨_, _, x, t, ed, reads g1 hx, ?_, fun e he het => ⟨⟨f', cs, by rw [het]; exact g2, fun c hc => h2 c (List.mem_cons_of_mem _ hc), h4⟩, he⟩⟩
  rw [← h4]
  have := List.length_append (as := xs ++ (((Sw96Neutral.out (Sw96.step f x).2).length : Int) :: Sw96Neutral.out (Sw96.step f x).2)) (bs := PyFlat.told (PyFlat.played stepN (Sw96.step f x).1 (cs.map PySw96.whole)))
  omega
end Fw

/-! with_row, plain, answers -/
namespace Fw
open PySem PySem.Spec PyProof.Rows L2
def spWithRow (K : PySem.W.Frag) (CF CD : Addr) : Sp := fun vs H Q _ => ∃ (B : Addr → Prop) (d nu ro : Addr) (f : Sw96.Forest) (word : Nat) (ns row : List Nat) (x : Sw96.Call), vs = [.ref d, .int (word : Int), .ref nu, .ref ro] ∧ (∀ x, H x = none → B x) ∧ DeskAt K CF CD B H d f ∧ Fb.Wf f ∧
  H nu = some (.lst (nums ns)) ∧ H ro = some (.lst (nums row)) ∧ RowCall word ns row x ∧ Done K CF CD B H d f x Q
def spPlain (K : PySem.W.Frag) (CF CD : Addr) : Sp := fun vs H Q _ => ∃ (B : Addr → Prop) (d nu : Addr) (f : Sw96.Forest) (word : Nat) (ns : List Nat) (x : Sw96.Call), vs = [.ref d, .int (word : Int), .ref nu] ∧ (∀ x, H x = none → B x) ∧ DeskAt K CF CD B H d f ∧ Fb.Wf f ∧
  H nu = some (.lst (nums ns)) ∧ PlainCall word ns x ∧ Done K CF CD B H d f x Q
/-- answers(calls) -/
def spAns (K : PySem.W.Frag) : Sp := fun vs H Q _ => ∃ (a : Addr) (l : List Int), vs = [.ref a] ∧ SqL K H a (l.map V.int) ∧ PySw96.answers_asked l = true ∧
  ∀ (H' : Hp) (p : Addr), H' p = some (.lst ((PySw96.answers l).map V.int)) → Q (.ref p) H'
theorem cut_nat {l : List Int} {i j : Nat} (hi : i ≤ j) (hj : j ≤ l.length) : cutV (l.map V.int) (some (i : Int)) (some (j : Int)) = ((l.drop i).take (j - i)).map V.int := by
  unfold cutV
  rw [HT.sIx_nat, HT.sIx_nat, List.length_map, Nat.min_eq_left (show i ≤ l.length by omega), Nat.min_eq_left hj, ← List.map_drop, ← List.map_take]
theorem map_toI (l : List Nat) : (toI l).map V.int = nums l := nums_ints l
theorem desk_upd {K : PySem.W.Frag} {CF CD : Addr} {H : Hp} {d fo : Addr} {f : Sw96.Forest} {xs ys : List V} (h : DeskAt K CF CD (fun x => x ≠ fo) H d f) (hf : H fo = some (.lst xs)) : DeskAt K CF CD (fun x => x ≠ fo) (upd H fo (.lst ys)) d f := by
  obtain ⟨dx, a, ob, dy, s, wo, wi, fi, h, b1, b2, b3⟩ := h
  have ne : ∀ b o, H b = some o → (∀ zs, o ≠ .lst zs) → b ≠ fo := fun b o e n z => by
    rw [z, hf] at e
    exact n _ (Option.some.inj e).symm
  refine ⟨dx, a, ?_, dy, s, wo, wi, fi, ⟨?_, ?_, ?_, ?_, ?_⟩, b1, b2, b3⟩
  · rw [upd_ne (ne _ _ ob fun _ z => by cases z)]
    exact ob
  · rw [upd_ne (ne _ _ h.ob fun _ z => by cases z)]
    exact h.ob
  · rw [upd_ne b1]
    exact h.sl
  · rw [upd_ne b2]
    exact h.wo
  · rcases h.wi with (y | ⟨o, y⟩) | y
    · refine .inl (.inl ?_)
      rw [upd_ne (ne _ _ y fun _ z => by cases z)]
      exact y
    · refine .inl (.inr ⟨o, ?_⟩)
      rw [upd_ne (ne _ _ y fun _ z => by cases z)]
      exact y
    · exact .inr y
  · rw [upd_ne b3]
    exact h.fi
theorem seq_upd {K : PySem.W.Frag} {H : Hp} {c fo : Addr} {o : HO} {xs : List V} (h : SqL K H c xs) (hc : c ≠ fo ∨ ∀ H, SqL K H c xs) : SqL K (upd H fo o) c xs := by
  rcases hc with hc | hc
  · rcases h with (h | ⟨u, h⟩) | h
    · refine .inl (.inl ?_)
      rw [upd_ne hc]
      exact h
    · refine .inl (.inr ⟨u, ?_⟩)
      rw [upd_ne hc]
      exact h
    · exact .inr h
  · exact hc _
theorem table_at {word n : Nat} (h : table[word]? = some n) : (nums [1, 4, 1, 1, 0, 1, 2, 1])[word]? = some (V.int (n : Int)) := nums_at h
section
variable {P : Program} {w : World} {K : PySem.W.Frag} {mg : Str → Option Value} {base : Heap} {CF CD : Addr}
theorem scWithRow : FnScope ["desk", "word", "numbers", "row"] ["desk", "word", "numbers", "row"] (defScope sWithRow) := ⟨rfl, rfl, rfl, by decide +kernel, rfl, by decide +kernel, by decide +kernel⟩
theorem ok_withrow {f : Addr} {fd : FuncData} (F : Fun K "with_row" "with_row" sWithRow f fd) (T : Txt K mg CF CD) (m1 : MCal P w K mg base 4 CD "begin" ["self", "wide", "row"] (spBegin K CF CD)) (m2 : MCal P w K mg base 5 CD "comes" ["self", "breaks"] (spComes K CF CD)) (m3 : MCal P w K mg base 6 CD "burnt" ["self", "last", "breaks"] (spBurnt K CF CD)) :
    FnOk P w K mg base CX0 7 f fd ["desk", "word", "numbers", "row"] (spWithRow K CF CD) := by
  refine F.ok scWithRow (fun vs H Q E h => ?_) (fun cdv A outer s H vs Q E hr h => ?_)
  · obtain ⟨B, d, nu, ro, f, word, ns, row, x, rfl, _⟩ := h
    rfl
  · obtain ⟨B, d, nu, ro, f, word, ns, row, x, rfl, hB, hd, W, hnu, hro, hx, k⟩ := h
    obtain ⟨f1, fd1, n1, b1, G1⟩ := m1
    obtain ⟨f2, fd2, n2, b2, G2⟩ := m2
    obtain ⟨f3, fd3, n3, b3, G3⟩ := m3
    have hr4 : Room 4 _ := hr.mono (by decide)
    have hr5 : Room 5 _ := hr.mono (by decide)
    refine ⟨_, pss_cons (ps_if (pt_cmpR op_eq (pv 1) pe_int (nomark _)) (pss_one (ps_ret (pe_meth (pv 0) T.clD n1 G1 hr4 b1 .nil pass0 (pa_cons (pe_ix ix_list (pv 2) pe_int (fun _ _ => rfl)) (pa_cons (pv 3) pa_nil))))) pss_nil)
      (pss_cons (ps_if (pt_cmpR op_eq (pv 1) pe_int (nomark _)) (pss_one (ps_ret (pe_meth (pv 0) T.clD n2 G2 hr5 b2 .nil pass0 (pa_cons (pv 3) pa_nil)))) pss_nil)
      (pss_one (ps_ret (pe_meth (pv 0) T.clD n3 G3 hr b3 .nil pass0 (pa_cons (pe_ix ix_list (pv 2) pe_int (fun _ _ => rfl)) (pa_cons (pv 3) pa_nil)))))), ?_⟩
    obtain ⟨dx, a, hdi⟩ := id hd
    refine ⟨_, rfl, rfl, _, rfl, ?_⟩
    rcases hx with ⟨rfl, wd, ps, rfl, rfl, h25, rfl⟩ | ⟨rfl, rfl, h25, rfl⟩ | ⟨rfl, t, rfl, h25, rfl⟩
    · refine if_true_of rfl ?_
      exact ⟨_, rfl, d, dx, _, rfl, hdi.ob, dF_no (by decide +kernel), _, rfl, nu, _, 0, V.int (wd : Int), rfl, rfl, SqL.of hnu, rfl, _, rfl, B, d, ro, f, wd, ps, rfl, hB, hd, hro, h25, k⟩
    · refine if_false_of rfl ⟨_, rfl, rfl, _, rfl, if_true_of rfl ?_⟩
      exact ⟨_, rfl, d, dx, _, rfl, hdi.ob, dF_no (by decide +kernel), _, rfl, B, d, ro, f, row, rfl, hd, W, hro, h25, k⟩
    · refine if_false_of rfl ⟨_, rfl, rfl, _, rfl, if_false_of rfl ?_⟩
      exact ⟨_, rfl, d, dx, _, rfl, hdi.ob, dF_no (by decide +kernel), _, rfl, nu, _, 0, V.int (t : Int), rfl, rfl, SqL.of hnu, rfl, _, rfl, B, d, ro, f, t, row, rfl, hd, W, hro, h25, k⟩
theorem scPlain : FnScope ["desk", "word", "numbers"] ["desk", "word", "numbers"] (defScope sPlain) := ⟨rfl, rfl, rfl, by decide +kernel, rfl, by decide +kernel, by decide +kernel⟩
theorem ok_plain {f : Addr} {fd : FuncData} (F : Fun K "plain" "plain" sPlain f fd) (T : Txt K mg CF CD) (m1 : MCal P w K mg base 3 CD "set_wind" ["self", "numbers"] (spSetWind K CF CD)) (m2 : MCal P w K mg base 3 CD "set_fire" ["self", "place"] (spSetFire K CF CD)) (m3 : MCal P w K mg base 1 CD "put_out" ["self", "place"] (spPutOut K CF CD))
    (m6 : MCal P w K mg base 7 CD "best" ["self", "most", "last"] (spBest K CF CD)) (m7 : MCal P w K mg base 6 CD "guards" ["self", "place"] (spGuards K CF CD)) :
    FnOk P w K mg base CX0 8 f fd ["desk", "word", "numbers"] (spPlain K CF CD) := by
  refine F.ok scPlain (fun vs H Q E h => ?_) (fun cdv A outer s H vs Q E hr h => ?_)
  · obtain ⟨B, d, nu, f, word, ns, x, rfl, _⟩ := h
    rfl
  · obtain ⟨B, d, nu, f, word, ns, x, rfl, hB, hd, W, hnu, hx, k⟩ := h
    obtain ⟨f1, fd1, n1, b1, G1⟩ := m1
    obtain ⟨f2, fd2, n2, b2, G2⟩ := m2
    obtain ⟨f3, fd3, n3, b3, G3⟩ := m3
    obtain ⟨f6, fd6, n6, b6, G6⟩ := m6
    obtain ⟨f7, fd7, n7, b7, G7⟩ := m7
    have hr1 : Room 1 _ := hr.mono (by decide)
    have hr3 : Room 3 _ := hr.mono (by decide)
    have hr6 : Room 6 _ := hr.mono (by decide)
    refine ⟨_, pss_cons (ps_if (pt_cmpR op_eq (pv 1) pe_int (nomark _)) (pss_one (ps_ret (pe_meth (pv 0) T.clD n1 G1 hr3 b1 .nil pass0 (pa_cons (pv 2) pa_nil)))) pss_nil)
      (pss_cons (ps_if (pt_cmpR op_eq (pv 1) pe_int (nomark _)) (pss_one (ps_ret (pe_meth (pv 0) T.clD n2 G2 hr3 b2 .nil pass0 (pa_cons (pe_ix ix_list (pv 2) pe_int (fun _ _ => rfl)) pa_nil)))) pss_nil)
      (pss_cons (ps_if (pt_cmpR op_eq (pv 1) pe_int (nomark _)) (pss_one (ps_ret (pe_meth (pv 0) T.clD n3 G3 hr1 b3 .nil pass0 (pa_cons (pe_ix ix_list (pv 2) pe_int (fun _ _ => rfl)) pa_nil)))) pss_nil)
      (pss_cons (ps_if (pt_cmpR op_eq (pv 1) pe_int (nomark _)) (pss_one (ps_ret (pe_meth (pv 0) T.clD n6 G6 hr b6 .nil pass0 (pa_cons (pe_ix ix_list (pv 2) pe_int (fun _ _ => rfl)) (pa_cons (pe_ix ix_list (pv 2) pe_int (fun _ _ => rfl)) pa_nil))))) pss_nil)
      (pss_one (ps_ret (pe_meth (pv 0) T.clD n7 G7 hr6 b7 .nil pass0 (pa_cons (pe_ix ix_list (pv 2) pe_int (fun _ _ => rfl)) pa_nil))))))), ?_⟩
    obtain ⟨dx, a, hdi⟩ := id hd
    refine ⟨_, rfl, rfl, _, rfl, ?_⟩
    rcases hx with ⟨rfl, n1, n2, n3, n4, rfl, rfl⟩ | ⟨rfl, i, rfl, rfl⟩ | ⟨rfl, i, rfl, rfl⟩ | ⟨rfl, m, t, rfl, rfl⟩ | ⟨rfl, i, rfl, rfl⟩
    · refine if_true_of rfl ?_
      exact ⟨_, rfl, d, dx, _, rfl, hdi.ob, dF_no (by decide +kernel), _, rfl, B, d, nu, f, _, _, _, _, rfl, hB, hd, hnu, k⟩
    · refine if_false_of rfl ⟨_, rfl, rfl, _, rfl, if_true_of rfl ?_⟩
      exact ⟨_, rfl, d, dx, _, rfl, hdi.ob, dF_no (by decide +kernel), _, rfl, nu, _, 0, V.int (i : Int), rfl, rfl, SqL.of hnu, rfl, B, d, f, i, rfl, hB, hd, W, k⟩
    · refine if_false_of rfl ⟨_, rfl, rfl, _, rfl, if_false_of rfl ⟨_, rfl, rfl, _, rfl, if_true_of rfl ?_⟩⟩
      exact ⟨_, rfl, d, dx, _, rfl, hdi.ob, dF_no (by decide +kernel), _, rfl, nu, _, 0, V.int (i : Int), rfl, rfl, SqL.of hnu, rfl, B, d, f, i, rfl, hB, hd, W, k⟩
    · refine if_false_of rfl ⟨_, rfl, rfl, _, rfl, if_false_of rfl ⟨_, rfl, rfl, _, rfl, if_false_of rfl ⟨_, rfl, rfl, _, rfl, if_true_of rfl ?_⟩⟩⟩
      exact ⟨_, rfl, d, dx, _, rfl, hdi.ob, dF_no (by decide +kernel), _, rfl, nu, _, 0, V.int (m : Int), rfl, rfl, SqL.of hnu, rfl, _, rfl, nu, _, 1, V.int (t : Int), rfl, rfl, SqL.of hnu, rfl, B, d, f, m, t, rfl, hd, W, k⟩
    · refine if_false_of rfl ⟨_, rfl, rfl, _, rfl, if_false_of rfl ⟨_, rfl, rfl, _, rfl, if_false_of rfl ⟨_, rfl, rfl, _, rfl, if_false_of rfl ?_⟩⟩⟩
      exact ⟨_, rfl, d, dx, _, rfl, hdi.ob, dF_no (by decide +kernel), _, rfl, nu, _, 0, V.int (i : Int), rfl, rfl, SqL.of hnu, rfl, B, d, f, i, rfl, hd, W, k⟩
theorem scAns : FnScope ["calls", "desk", "found", "at", "word", "end", "numbers", "begin", "told"] ["calls"] (defScope sAns) := ⟨rfl, rfl, rfl, by decide +kernel, rfl, by decide +kernel, by decide +kernel⟩
theorem ok_ans {f : Addr} {fd : FuncData} (F : Fun K "answers" "answers" sAns f fd) (T : Txt K mg CF CD) (iD : ICal P w K mg base 3 CD ["self"] (spDInit K CF CD)) (cR : Cal P w K mg base 7 "with_row" ["desk", "word", "numbers", "row"] (spWithRow K CF CD)) (cP : Cal P w K mg base 8 "plain" ["desk", "word", "numbers"] (spPlain K CF CD)) :
    FnOk P w K mg base CX0 9 f fd ["calls"] (spAns K) := by
  refine F.ok scAns (fun vs H Q E h => ?_) (fun cdv A outer s H vs Q E hr h => ?_)
  · obtain ⟨a, l, rfl, _⟩ := h
    rfl
  · obtain ⟨a, l, rfl, hS, hask, k⟩ := h
    obtain ⟨fI, fdI, MI, bI, GI⟩ := iD
    obtain ⟨fr, fdr, gr, kr, br, Gr⟩ := cR
    obtain ⟨fp, fdp, gp, kp, bp, Gp⟩ := cP
    obtain ⟨na, gN, wN⟩ := T.numbers
    obtain ⟨ra, gR, wR⟩ := T.rowed
    have hr4 : Room 4 _ := hr.mono (by decide)
    have hr7 : Room 7 _ := hr.mono (by decide)
    refine ⟨_, pss_cons (ps_set (i := 1) scAns.nd rfl (Or.inl rfl) (pe_make0 MI GI hr4 rfl T.gD bI .nil pass0))
      (pss_cons (ps_set (i := 2) scAns.nd rfl (Or.inl rfl) (pe_lst pa_nil))
      (pss_cons (ps_set (i := 3) scAns.nd rfl (Or.inl rfl) pe_int)
      (pss_cons (ps_while PassesOwn.never (pt_cmpR op_lt (pv 3) (pe_callB call_len_seq (by rfl) T.len PySem.boot_len (pa_cons (pv 0) pa_nil)) (nomark _))
        (pss_cons (ps_set (i := 4) scAns.nd rfl (Or.inl rfl) (pe_ix ix_list (pv 0) (pv 3) (fun _ _ => rfl)))
        (pss_cons (ps_set (i := 5) scAns.nd rfl (Or.inl rfl) (pe_op op_add (pe_op op_add (pv 3) pe_int) (pe_ix ix_tup (pe_glob (v := .ref na) rfl gN rfl) (pv 4) (fun _ _ => rfl))))
        (pss_cons (ps_set (i := 6) scAns.nd rfl (Or.inl rfl) (pe_slice sl_list (pv 0) (po_some (pe_op op_add (pv 3) pe_int)) (po_some (pv 5))))
        (pss_cons (ps_if (pt_cmpR op_in_seq (pv 4) (pe_glob (v := .ref ra) rfl gR rfl) rfl)
          (pss_cons (ps_set (i := 7) scAns.nd rfl (Or.inl rfl) (pe_op op_add (pv 5) pe_int))
          (pss_cons (ps_set (i := 5) scAns.nd rfl (Or.inl rfl) (pe_op op_add (pv 7) (pe_ix ix_list (pv 0) (pe_op op_sub (pv 7) pe_int) (fun _ _ => rfl))))
          (pss_one (ps_set (i := 8) scAns.nd rfl (Or.inl rfl) (pe_call Gr hr7 rfl gr kr br .nil pass0 (pa_cons (pv 1) (pa_cons (pv 4) (pa_cons (pv 6) (pa_cons (pe_slice sl_list (pv 0) (po_some (pv 7)) (po_some (pv 5))) pa_nil)))))))))
          (pss_one (ps_set (i := 8) scAns.nd rfl (Or.inl rfl) (pe_call Gp hr rfl gp kp bp .nil pass0 (pa_cons (pv 1) (pa_cons (pv 4) (pa_cons (pv 6) pa_nil)))))))
        (pss_cons (ps_expr (pe_bm PySem.F.plainAttrs_list PySem.F.slot_list_append PySem.F.type_list_append mt_append (pv 2) (pa_cons (pe_callB call_len_seq (by rfl) T.len PySem.boot_len (pa_cons (pv 8) pa_nil)) pa_nil)))
        (pss_cons (ps_expr (pe_bm PySem.F.plainAttrs_list PySem.F.slot_list_extend PySem.F.type_list_extend mt_extend (pv 2) (pa_cons (pv 8) pa_nil)))
        (pss_one (ps_set (i := 3) scAns.nd rfl (Or.inl rfl) (pv 5))))))))))
      (pss_one (ps_ret (pv 2)))))), ?_⟩
    obtain ⟨L0, hmax⟩ := Left.start hask
    -- desk = Desk()
    intro d dx nd ndx nne
    have hd0 : H d = none := nd
    refine ⟨d, dx, rfl, upd_same, fun H1 D1 kp1 => ⟨rfl, ?_⟩⟩
    have s1 : Same H H1 := Same.made nd ndx kp1
    have hS1 := s1.seq hS
    -- found = []
    refine ⟨by decide, fun fo hfo => ?_⟩
    have s2 : Same H1 (upd H1 fo (.lst [])) := same_upd (Same.refl _) hfo
    have hcf : a ≠ fo ∨ ∀ H, SqL K H a (l.map V.int) := by
      rcases hS1 with (h | ⟨o, h⟩) | h
      · exact .inl (ne_of_none h hfo)
      · exact .inl (ne_of_none h hfo)
      · exact .inr fun _ => .inr h
    have D2 : DeskAt K CF CD (fun x => x ≠ fo) (upd H1 fo (.lst [])) d Sw96.init := by
      obtain ⟨dy, b, ob, dz, s, wo, wi, fi, h, _⟩ := D1
      exact ⟨dy, b, s2 _ _ ob, dz, s, wo, wi, fi, h.same s2, ne_of_none h.sl hfo, ne_of_none h.wo hfo, ne_of_none h.fi hfo⟩
    -- while at < len(calls)
    refine ⟨fun m σ H' => ∃ (i : Nat) (f : Sw96.Forest) (xs : List Int) (v4 v5 v6 v7 v8 : Option V), m = l.length - i ∧ σ = [some (.ref a), some (.ref d), some (.ref fo), some (.int (i : Int)), v4, v5, v6, v7, v8] ∧ SqL K H' a (l.map V.int) ∧ DeskAt K CF CD (fun x => x ≠ fo) H' d f ∧ H' fo = some (.lst (xs.map V.int)) ∧ Fb.Wf f ∧ Left l i f xs,
      ⟨_, 0, Sw96.init, [], _, _, _, _, _, rfl, rfl, s2.seq hS1, D2, upd_same, wf_init, L0⟩, ?_⟩
    rintro m σ H3 ⟨i, f, xs, v4, v5, v6, v7, v8, rfl, rfl, S3, D3, f3, W, Lf⟩
    refine ⟨_, rfl, _, rfl, a, _, rfl, .inl S3, _, _, rfl, rfl, _, rfl, ?_⟩
    rw [List.length_map]
    by_cases c : i < l.length
    · refine if_true_of (decide_eq_true (by omega)) ?_
      obtain ⟨p, r, x, t, ed, Rd, hlen, next⟩ := Lf.turn c
      have ed1 : l.drop (i + 1) = r := by
        have := congrArg (List.drop 1) ed
        rw [List.drop_drop] at this
        exact this
      have rlen : r.length + (i + 1) = l.length := by
        rw [← ed1, List.length_drop]
        omega
      have hp : l[i]? = some p := by
        have := congrArg (fun q => q[0]?) ed
        simp only [List.getElem?_drop] at this
        exact this
      have hpV : atI (l.map V.int) (i : Int) = some (V.int p) := atI_nat (by rw [List.getElem?_map, hp]; rfl)
      refine ⟨fun σ' H' => ∃ (j : Nat) (f : Sw96.Forest) (xs : List Int) (v4 v5 v6 v7 v8 : Option V), i < j ∧ j ≤ l.length ∧ σ' = [some (.ref a), some (.ref d), some (.ref fo), some (.int (j : Int)), v4, v5, v6, v7, v8] ∧ SqL K H' a (l.map V.int) ∧ DeskAt K CF CD (fun x => x ≠ fo) H' d f ∧ H' fo = some (.lst (xs.map V.int)) ∧ Fb.Wf f ∧ Left l j f xs, ?_, ?_⟩
      · rintro σ' H' ⟨j, f, xs, v4, v5, v6, v7, v8, h1, h2, e, rest⟩
        exact ⟨l.length - j, by omega, j, f, xs, v4, v5, v6, v7, v8, rfl, e, rest⟩
      -- behind the call: found.append(len(told)), found.extend(told), at = end
      have tail : ∀ (j : Nat) (v4 v6 v7 : Option V) (q : Addr) (H5 H6 : Hp), i < j → j ≤ l.length → l.drop j = t → SqL K H5 a (l.map V.int) → H5 fo = some (.lst (xs.map V.int)) → H5 q = none → DeskAt K CF CD (fun x => x ≠ fo) H6 d (Sw96.step f x).1 → KeepN H5 H6 → H6 q = some (.lst (outV (Sw96.step f x).2)) →
          tSeq (tDrop (tBM K "list" rAppend (tVar 2) (tCons (tCB (fun xs H Q => ∃ p ys, xs = [.ref p] ∧ (SqL K H p ys ∨ SqT K H p ys) ∧ Q (.int ys.length) H) (tCons (tVar 8) tNil)) tNil))) (tSeq (tDrop (tBM K "list" rExtend (tVar 2) (tCons (tVar 8) tNil))) (tAsg (tVar 5) (gName 3)))
            { nx := fun σ' H' => ∃ (j : Nat) (f : Sw96.Forest) (xs : List Int) (v4 v5 v6 v7 v8 : Option V), i < j ∧ j ≤ l.length ∧ σ' = [some (.ref a), some (.ref d), some (.ref fo), some (.int (j : Int)), v4, v5, v6, v7, v8] ∧ SqL K H' a (l.map V.int) ∧ DeskAt K CF CD (fun x => x ≠ fo) H' d f ∧ H' fo = some (.lst (xs.map V.int)) ∧ Fb.Wf f ∧ Left l j f xs, rt := Q }
            [some (.ref a), some (.ref d), some (.ref fo), some (.int (i : Int)), v4, some (.int (j : Int)), v6, v7, some (.ref q)] H6 := by
        intro j v4 v6 v7 q H5 H6 hj1 hj2 hjt S5 f5 q5 D6 k6 q6
        have f6 := k6.lst f5
        have hqf : q ≠ fo := fun e => by
          rw [e, f5] at q5
          cases q5
        rw [List.length_append, List.length_cons] at hlen
        have big2 : ∀ n, n ≤ 10000000 → n < sizeLine := fun n h => Nat.lt_of_le_of_lt h (by decide)
        refine ⟨_, rfl, .inl ⟨rfl, _, SqL.of f6⟩, _, rfl, q, _, rfl, .inl (SqL.of q6), fo, _, _, rfl, rfl, f6, ?_, ?_⟩
        · rw [List.length_map]
          exact big2 _ (by omega)
        have ol : (outV (Sw96.step f x).2).length = (Sw96Neutral.out (Sw96.step f x).2).length := List.length_map ..
        refine ⟨_, rfl, .inl ⟨rfl, _, SqL.of upd_same⟩, _, rfl, fo, q, _, _, rfl, rfl, upd_same, by rw [upd_ne hqf]; exact q6, ?_, ?_⟩
        · rw [List.length_append, List.length_map, ol]
          show xs.length + 1 + _ ≤ _
          exact Nat.le_of_lt (big2 _ (by omega))
        rw [upd_upd]
        refine ⟨_, rfl, j, (Sw96.step f x).1, xs ++ (((Sw96Neutral.out (Sw96.step f x).2).length : Int) :: Sw96Neutral.out (Sw96.step f x).2), _, _, _, _, _, hj1, hj2, rfl, seq_upd (k6.seq S5) hcf, desk_upd D6 f6, ?_, wf_step W x, next j hj2 hjt⟩
        rw [upd_same, ol, List.map_append, List.append_assoc]
        rfl
      -- word = calls[at]
      refine ⟨_, rfl, _, rfl, a, _, _, V.int p, rfl, rfl, S3, hpV, ?_⟩
      cases Rd with
      | plain word n ns hw htab hrow hn hns ht hx =>
        subst hw ht
        -- end = at + 1 + NUMBERS[word]
        refine ⟨_, rfl, _, _, rfl, rfl, _, rfl, na, _, _, V.int (n : Int), rfl, rfl, wN.sq _, atI_nat (table_at htab), _, _, rfl, rfl, ?_⟩
        -- numbers = calls[at + 1:end]
        refine ⟨_, rfl, _, rfl, _, _, rfl, rfl, _, rfl, _, rfl, _, rfl, a, _, rfl, S3, fun nu hnu => ?_⟩
        have ecut : cutV (l.map V.int) (some ((i : Int) + 1)) (some ((i : Int) + 1 + (n : Int))) = nums ns := by
          have := cut_nat (l := l) (i := i + 1) (j := i + 1 + n) (by omega) (by omega)
          rw [show i + 1 + n - (i + 1) = n by omega, ed1, hns, map_toI] at this
          exact this
        rw [ecut]
        have s4 : Same H3 (upd H3 nu (.lst (nums ns))) := same_upd (Same.refl _) hnu
        have D4 : DeskAt K CF CD (fun x => x ≠ fo) (upd H3 nu (.lst (nums ns))) d f := by
          obtain ⟨dy, b, h⟩ := D3
          exact ⟨dy, b, h.same s4⟩
        -- word in ROWED
        refine ⟨_, rfl, ra, _, rfl, .inr (wR.sq _), rfl, nums_flat _, _, rfl, ?_⟩
        rw [if_neg Bool.false_ne_true, nums_in, hrow]
        refine iteF ?_
        -- told = plain(desk, word, numbers)
        refine ⟨_, rfl, _, rfl, _, rfl, (fun x => x ≠ fo), d, nu, f, word, ns, x, rfl, fun y hy e => ?_, D4, W, upd_same, hx, fun q H6 hq D6 k6 q6 => ?_⟩
        · rw [e, s4 _ _ f3] at hy
          cases hy
        · exact tail (i + 1 + n) _ _ _ q _ H6 (by omega) (by omega) (by rw [← ed1, List.drop_drop]) (s4.seq S3) (s4 _ _ f3) hq D6 k6 q6
      | row word n m ns row r' hw htab hrow hn hns hdr hm hro ht hx =>
        subst hw ht
        have ed2 : l.drop (i + 1 + n) = (m : Int) :: r' := by
          rw [← hdr, ← ed1, List.drop_drop]
        have ed3 : l.drop (i + 1 + n + 1) = r' := by
          have := congrArg (List.drop 1) ed2
          rw [List.drop_drop] at this
          exact this
        have r'len : r'.length + (i + 1 + n + 1) = l.length := by
          have := congrArg List.length ed2
          rw [List.length_drop, List.length_cons] at this
          omega
        have hm' : l[i + 1 + n]? = some (m : Int) := by
          have := congrArg (fun q => q[0]?) ed2
          simp only [List.getElem?_drop] at this
          exact this
        -- end = at + 1 + NUMBERS[word]
        refine ⟨_, rfl, _, _, rfl, rfl, _, rfl, na, _, _, V.int (n : Int), rfl, rfl, wN.sq _, atI_nat (table_at htab), _, _, rfl, rfl, ?_⟩
        -- numbers = calls[at + 1:end]
        refine ⟨_, rfl, _, rfl, _, _, rfl, rfl, _, rfl, _, rfl, _, rfl, a, _, rfl, S3, fun nu hnu => ?_⟩
        have ecut : cutV (l.map V.int) (some ((i : Int) + 1)) (some ((i : Int) + 1 + (n : Int))) = nums ns := by
          have := cut_nat (l := l) (i := i + 1) (j := i + 1 + n) (by omega) (by omega)
          rw [show i + 1 + n - (i + 1) = n by omega, ed1, hns, map_toI] at this
          exact this
        rw [ecut]
        have s4 : Same H3 (upd H3 nu (.lst (nums ns))) := same_upd (Same.refl _) hnu
        -- word in ROWED
        refine ⟨_, rfl, ra, _, rfl, .inr (wR.sq _), rfl, nums_flat _, _, rfl, ?_⟩
        rw [if_neg Bool.false_ne_true, nums_in, hrow]
        refine iteT ?_
        -- begin = end + 1; end = begin + calls[begin - 1]
        refine ⟨_, rfl, _, _, rfl, rfl, ?_⟩
        refine ⟨_, rfl, _, rfl, _, rfl, _, _, rfl, rfl, a, _, _, V.int (m : Int), rfl, rfl, s4.seq S3, ?_, _, _, rfl, rfl, ?_⟩
        · have e : (i : Int) + 1 + (n : Int) + 1 - 1 = ((i + 1 + n : Nat) : Int) := by omega
          rw [e]
          exact atI_nat (by rw [List.getElem?_map, hm']; rfl)
        -- told = with_row(desk, word, numbers, calls[begin:end])
        refine ⟨_, rfl, _, rfl, _, rfl, _, rfl, _, rfl, _, rfl, _, rfl, _, rfl, a, _, rfl, s4.seq S3, fun ro hro' => ?_⟩
        have ecut2 : cutV (l.map V.int) (some ((i : Int) + 1 + (n : Int) + 1)) (some ((i : Int) + 1 + (n : Int) + 1 + (m : Int))) = nums row := by
          have := cut_nat (l := l) (i := i + 1 + n + 1) (j := i + 1 + n + 1 + m) (by omega) (by omega)
          rw [show i + 1 + n + 1 + m - (i + 1 + n + 1) = m by omega, ed3, hro, map_toI] at this
          exact this
        rw [ecut2]
        have s5' : Same (upd H3 nu (.lst (nums ns))) (upd (upd H3 nu (.lst (nums ns))) ro (.lst (nums row))) := same_upd (Same.refl _) hro'
        have s5 := s4.trans s5'
        have D5 : DeskAt K CF CD (fun x => x ≠ fo) (upd (upd H3 nu (.lst (nums ns))) ro (.lst (nums row))) d f := by
          obtain ⟨dy, b, h⟩ := D3
          exact ⟨dy, b, h.same s5⟩
        refine ⟨(fun x => x ≠ fo), d, nu, ro, f, word, ns, row, x, rfl, fun y hy e => ?_, D5, W, s5' _ _ upd_same, upd_same, hx, fun q H6 hq D6 k6 q6 => ?_⟩
        · rw [e, s5 _ _ f3] at hy
          cases hy
        · exact tail (i + 1 + n + 1 + m) _ _ _ q _ H6 (by omega) (by omega) (by rw [← ed3, List.drop_drop]) (s5.seq S3) (s5 _ _ f3) hq D6 k6 q6
    · refine if_false_of (decide_eq_false (by omega)) ?_
      rw [Lf.done (by omega)] at f3
      exact ⟨_, rfl, k _ fo f3⟩
end
end Fw

/-! All defs together. -/
namespace Fw
open PySem PySem.Spec PyProof.Rows L2
def DefAt (K : PySem.W.Frag) (mg : Str → Option Value) (x : Str) (st : Stmt) (ps : List Str) : Prop :=
  ∃ f fd, mg x = some (.ref f) ∧ Fun K x x st f fd ∧ Binds K fd ps [] ∧ ∀ (s : Shared) (us : List Value), us.length = ps.length → BindsTo s fd ⟨us, []⟩ (ps.zip us)
def MetAt (K : PySem.W.Frag) (C : Addr) (x qual : Str) (st : Stmt) (ps : List Str) : Prop :=
  ∃ f fd, Meth K C x f ∧ Fun K x qual st f fd ∧ Binds K fd ps []
theorem def_mk {K : PySem.W.Frag} {h : Heap} {mg : Str → Option Value} {x : Str} {st : Stmt} {ps : List Str} {f : Addr} {oc : Value} {od an : Option Addr} {sl : Array (Option Value)} {kV dc pm cd ct : Value} (X : K.In h) (G : h.Ns mainGlobals mg)
    (a : PySem.W.nsIn K mainGlobals x = some (some (.ref f))) (l : K.lookup f = some ⟨oc, od, .func (PySem.W.fnOf x x (defArgs st) (defBody st) (defScope st) .none kV dc pm an cd ct), sl⟩) (c : PySem.W.codeIn K cd x = true) (k : PySem.W.keepIn K (.ref f) = true)
    (b : ∀ (kV doc pm : Value) (an : Option Addr) (cdv ct : Value) (us : List Value), us.length = ps.length → bindArgs (PySem.W.fnOf x x (defArgs st) (defBody st) (defScope st) .none kV doc pm an cdv ct) ⟨us, []⟩ = pure (ps.zip us)) : DefAt K mg x st ps :=
  ⟨f, _, PySem.W.mg_of X G a, fun_mk l c k, (fun_mk l c k).binds b, fun _ us hu => .of_eq (b _ _ _ _ _ _ us hu)⟩
theorem met_mk {K : PySem.W.Frag} {C : Addr} {x qual : Str} {st : Stmt} {ps : List Str} {f : Addr} {oc : Value} {od an : Option Addr} {sl : Array (Option Value)} {kV dc pm cd ct : Value}
    (a : PySem.W.findIn K (.ref C) x = some (some (.ref f))) (i : PySem.W.isFn K (.ref f) = true) (l : K.lookup f = some ⟨oc, od, .func (PySem.W.fnOf x qual (defArgs st) (defBody st) (defScope st) .none kV dc pm an cd ct), sl⟩) (c : PySem.W.codeIn K cd qual = true) (k : PySem.W.keepIn K (.ref f) = true)
    (b : ∀ (kV doc pm : Value) (an : Option Addr) (cdv ct : Value) (us : List Value), us.length = ps.length → bindArgs (PySem.W.fnOf x qual (defArgs st) (defBody st) (defScope st) .none kV doc pm an cdv ct) ⟨us, []⟩ = pure (ps.zip us)) : MetAt K C x qual st ps :=
  ⟨f, _, ⟨a, i, k⟩, fun_mk l c k, (fun_mk l c k).binds b⟩
structure All (K : PySem.W.Frag) (mg : Str → Option Value) (CF CD : Addr) : Prop where
  T : Txt K mg CF CD
  mkF : PySem.W.makesIn K CF = true
  mkD : PySem.W.makesIn K CD = true
  kpF : PySem.W.keepIn K (.ref CF) = true
  kpD : PySem.W.keepIn K (.ref CD) = true
  near : DefAt K mg "nearest" sNear ["times", "done"]
  times : DefAt K mg "times_of" sTimes ["forest", "breaks"]
  burntBy : DefAt K mg "burnt_by" sBurntBy ["times", "last"]
  lost : DefAt K mg "lost_by" sLost ["forest", "last", "breaks"]
  sets : DefAt K mg "sets_of" sSets ["places", "size"]
  bestOf : DefAt K mg "best_of" sBestOf ["forest", "most", "last"]
  guardsOf : DefAt K mg "guards_of" sGuardsOf ["forest", "place"]
  finit : MetAt K CF "__init__" "Forest.__init__" sFInit ["self", "wide", "slownesses", "worths"]
  size : MetAt K CF "size" "Forest.size" sSize ["self"]
  has : MetAt K CF "has_place" "Forest.has_place" sHas ["self", "place"]
  burns : MetAt K CF "burns" "Forest.burns" sBurns ["self", "place", "breaks"]
  nbrs : MetAt K CF "neighbours" "Forest.neighbours" sNbrs ["self", "place"]
  ways : MetAt K CF "ways_from" "Forest.ways_from" sWays ["self", "place", "breaks"]
  within : DefAt K mg "are_within" sWithin ["numbers", "low", "high"]
  forestOf : DefAt K mg "forest_of" sForestOf ["wide", "row"]
  isWind : DefAt K mg "is_wind" sIsWind ["numbers"]
  areBreaks : DefAt K mg "are_breaks" sAreBreaks ["forest", "breaks"]
  told : DefAt K mg "told" sTold ["row"]
  dinit : MetAt K CD "__init__" "Desk.__init__" sDInit ["self"]
  begin_ : MetAt K CD "begin" "Desk.begin" sBegin ["self", "wide", "row"]
  setWind : MetAt K CD "set_wind" "Desk.set_wind" sSetWind ["self", "numbers"]
  setFire : MetAt K CD "set_fire" "Desk.set_fire" sSetFire ["self", "place"]
  putOut : MetAt K CD "put_out" "Desk.put_out" sPutOut ["self", "place"]
  comes : MetAt K CD "comes" "Desk.comes" sComes ["self", "breaks"]
  burnt : MetAt K CD "burnt" "Desk.burnt" sBurnt ["self", "last", "breaks"]
  best : MetAt K CD "best" "Desk.best" sBest ["self", "most", "last"]
  guards : MetAt K CD "guards" "Desk.guards" sGuards ["self", "place"]
  withRow : DefAt K mg "with_row" sWithRow ["desk", "word", "numbers", "row"]
  plain : DefAt K mg "plain" sPlain ["desk", "word", "numbers"]
  ans : DefAt K mg "answers" sAns ["calls"]
section
variable {P : Program} {w : World} {K : PySem.W.Frag} {mg : Str → Option Value} {base : Heap} {CF CD : Addr}
theorem DefAt.cal {x : Str} {st : Stmt} {ps : List Str} {k : Nat} {sp : Sp} (h : DefAt K mg x st ps) (G : ∀ {f : Addr} {fd : FuncData}, Fun K x x st f fd → FnOk P w K mg base CX0 k f fd ps sp) : Cal P w K mg base k x ps sp := by
  obtain ⟨f, fd, g, F, b, _⟩ := h
  exact ⟨f, fd, g, F.kp, b, G F⟩
theorem MetAt.cal {C : Addr} {x qual : Str} {st : Stmt} {ps : List Str} {k : Nat} {sp : Sp} (h : MetAt K C x qual st ps) (G : ∀ {f : Addr} {fd : FuncData}, Fun K x qual st f fd → FnOk P w K mg base CX0 k f fd ps sp) : MCal P w K mg base k C x ps sp := by
  obtain ⟨f, fd, g, F, b⟩ := h
  exact ⟨f, fd, g, b, G F⟩
theorem MetAt.mk {C : Addr} {qual : Str} {st : Stmt} {ps : List Str} {k : Nat} {sp : Sp} (h : MetAt K C "__init__" qual st ps) (h1 : PySem.W.makesIn K C = true) (h2 : PySem.W.keepIn K (.ref C) = true) (G : ∀ {f : Addr} {fd : FuncData}, Fun K "__init__" qual st f fd → FnOk P w K mg base CX0 k f fd ps sp) : ICal P w K mg base k C ps sp := by
  obtain ⟨f, fd, g, F, b⟩ := h
  exact ⟨f, fd, ⟨h1, g.at_, g.fn, h2⟩, b, G F⟩
theorem All.fn (A : All K mg CF CD) {f : Addr} {fd : FuncData} (F : Fun K "answers" "answers" sAns f fd) : FnOk P w K mg base CX0 9 f fd ["calls"] (spAns K) := by
  have T := A.T
  have cNear : Cal P w K mg base 1 "nearest" ["times", "done"] spNear := A.near.cal fun F => ok_near F T
  have iF : ICal P w K mg base 1 CF ["self", "wide", "slownesses", "worths"] (spFInit K CF) := A.finit.mk A.mkF A.kpF fun F => ok_finit F T
  have mSize : MCal P w K mg base 1 CF "size" ["self"] (spSize K CF) := A.size.cal fun F => ok_size F T
  have mHas : MCal P w K mg base 2 CF "has_place" ["self", "place"] (spHas K CF) := A.has.cal fun F => ok_has F T mSize
  have mBurns : MCal P w K mg base 1 CF "burns" ["self", "place", "breaks"] (spBurns K CF) := A.burns.cal fun F => ok_burns F T
  have mNbrs : MCal P w K mg base 2 CF "neighbours" ["self", "place"] (spNbrs K CF) := A.nbrs.cal fun F => ok_nbrs F T mSize
  have mWays : MCal P w K mg base 3 CF "ways_from" ["self", "place", "breaks"] (spWays K CF) := A.ways.cal fun F => ok_ways F T mNbrs mBurns
  have cTimes : Cal P w K mg base 4 "times_of" ["forest", "breaks"] (spTimes K CF) := A.times.cal fun F => ok_times F T cNear mWays
  have cBurntBy : Cal P w K mg base 1 "burnt_by" ["times", "last"] spBurntBy := A.burntBy.cal fun F => ok_burntby F T
  have cLost : Cal P w K mg base 5 "lost_by" ["forest", "last", "breaks"] (spLost K CF) := A.lost.cal fun F => ok_lost F T cTimes cBurntBy
  have cSets : Cal P w K mg base 1 "sets_of" ["places", "size"] spSets := A.sets.cal fun F => ok_sets F T
  have cBestOf : Cal P w K mg base 6 "best_of" ["forest", "most", "last"] (spBestOf K CF) := A.bestOf.cal fun F => ok_bestof F T mSize cSets cLost
  have cGuardsOf : Cal P w K mg base 5 "guards_of" ["forest", "place"] (spGuardsOf K CF) := A.guardsOf.cal fun F => ok_guardsof F T cTimes mSize
  have cWithin : Cal P w K mg base 1 "are_within" ["numbers", "low", "high"] spWithin := A.within.cal fun F => ok_within F
  have cForestOf : Cal P w K mg base 3 "forest_of" ["wide", "row"] (spForestOf K CF) := A.forestOf.cal fun F => ok_forestof F T cWithin iF
  have cIsWind : Cal P w K mg base 2 "is_wind" ["numbers"] spIsWind := A.isWind.cal fun F => ok_iswind F T cWithin
  have cAreBreaks : Cal P w K mg base 3 "are_breaks" ["forest", "breaks"] (spAreBreaks K CF) := A.areBreaks.cal fun F => ok_arebreaks F T mHas
  have cTold : Cal P w K mg base 1 "told" ["row"] spTold := A.told.cal fun F => ok_told F T
  have iD : ICal P w K mg base 3 CD ["self"] (spDInit K CF CD) := A.dinit.mk A.mkD A.kpD fun F => ok_dinit F T iF
  have mBegin : MCal P w K mg base 4 CD "begin" ["self", "wide", "row"] (spBegin K CF CD) := A.begin_.cal fun F => ok_begin F T cForestOf mSize
  have mSetWind : MCal P w K mg base 3 CD "set_wind" ["self", "numbers"] (spSetWind K CF CD) := A.setWind.cal fun F => ok_setwind F T cIsWind
  have mSetFire : MCal P w K mg base 3 CD "set_fire" ["self", "place"] (spSetFire K CF CD) := A.setFire.cal fun F => ok_setfire F T mHas mBurns
  have mPutOut : MCal P w K mg base 1 CD "put_out" ["self", "place"] (spPutOut K CF CD) := A.putOut.cal fun F => ok_putout F T
  have mComes : MCal P w K mg base 5 CD "comes" ["self", "breaks"] (spComes K CF CD) := A.comes.cal fun F => ok_comes F T cAreBreaks cTimes cTold mSize
  have mBurnt : MCal P w K mg base 6 CD "burnt" ["self", "last", "breaks"] (spBurnt K CF CD) := A.burnt.cal fun F => ok_burnt F T cAreBreaks cLost cTimes cBurntBy cTold
  have mBest : MCal P w K mg base 7 CD "best" ["self", "most", "last"] (spBest K CF CD) := A.best.cal fun F => ok_best F T cBestOf cTold
  have mGuards : MCal P w K mg base 6 CD "guards" ["self", "place"] (spGuards K CF CD) := A.guards.cal fun F => ok_guards F T mHas cTimes cGuardsOf cTold
  have cRow : Cal P w K mg base 7 "with_row" ["desk", "word", "numbers", "row"] (spWithRow K CF CD) := A.withRow.cal fun F => ok_withrow F T mBegin mComes mBurnt
  have cPlain : Cal P w K mg base 8 "plain" ["desk", "word", "numbers"] (spPlain K CF CD) := A.plain.cal fun F => ok_plain F T mSetWind mSetFire mPutOut mBest mGuards
  exact ok_ans F T iD cRow cPlain
end
theorem All.end_ {P : Program} {w : World} {K : PySem.W.Frag} {mg : Str → Option Value} {CF CD fa : Addr} (A : All K mg CF CD) (hfa : mg "answers" = some (.ref fa)) :
    ∃ fd : FuncData, (∀ (s : Shared) (us : List Value), us.length = (["calls"] : List Str).length → BindsTo s fd ⟨us, []⟩ ((["calls"] : List Str).zip us)) ∧ ∀ base : Heap, K.In base → base.Ns mainGlobals mg → FnOk P w K mg base CX0 9 fa fd ["calls"] (spAns K) := by
  obtain ⟨f, fd, g, F, _, b⟩ := A.ans
  have e := hfa.symm.trans g
  cases e
  exact ⟨fd, b, fun base _ _ => A.fn F⟩
theorem tup_mk {K : PySem.W.Frag} {h : Heap} {mg : Str → Option Value} {x : Str} {a : Addr} {o : Obj} {its : Array Value} {n : Nat} {xs : List V} (X : K.In h) (G : h.Ns mainGlobals mg) (h1 : PySem.W.nsIn K mainGlobals x = some (some (.ref a))) (h2 : K.lookup a = some o) (h3 : o.cls = .type "tuple") (h4 : o.data = .seq its n) (h5 : its.size ≤ sizeLine) (h6 : Vals xs its.toList) :
    ∃ a, mg x = some (.ref a) ∧ WT K a xs := ⟨a, PySem.W.mg_of X G h1, o, its, n, h2, h3, h4, h5, h6⟩
theorem int_mk {K : PySem.W.Frag} {h : Heap} {mg : Str → Option Value} {x : Str} {i : Int} {t : Tok} (X : K.In h) (G : h.Ns mainGlobals mg) (h1 : PySem.W.nsIn K mainGlobals x = some (some (.int i t))) : ∃ t, mg x = some (.int i t) := ⟨t, PySem.W.mg_of X G h1⟩
end Fw

/-! The end: what the top has written (k_is finds each fact), the request, the row. Printed by gen_end.py. -/
theorem Fw.fin {P : PySem.Program} {w : PySem.World} {K : PySem.W.Frag} {h : PySem.Heap} {mg : PySem.Str → Option PySem.Value} {fa CF CD : PySem.Addr} (X : K.In h) (G : h.Ns PySem.mainGlobals mg) (hfa : mg "answers" = some (.ref fa))
    (gF : PySem.W.nsIn K PySem.mainGlobals "Forest" = some (some (.ref CF)))
    (gD : PySem.W.nsIn K PySem.mainGlobals "Desk" = some (some (.ref CD)))
    (pgF : PySem.W.plainGet K CF PySem.Str.empty = true)
    (hdF : PySem.W.hasDictIn K CF = true)
    (poF : PySem.W.plainOver K CF = true)
    (saF : PySem.W.findIn K (.ref CF) "__setattr__" = some (some (.builtin "object.__setattr__")))
    (pgD : PySem.W.plainGet K CD PySem.Str.empty = true)
    (hdD : PySem.W.hasDictIn K CD = true)
    (poD : PySem.W.plainOver K CD = true)
    (saD : PySem.W.findIn K (.ref CD) "__setattr__" = some (some (.builtin "object.__setattr__")))
    (n1 : PySem.W.findIn K (.ref CF) "wide" = some none)
    (n2 : PySem.W.findIn K (.ref CF) "slownesses" = some none)
    (n3 : PySem.W.findIn K (.ref CF) "worths" = some none)
    (n4 : PySem.W.findIn K (.ref CF) "wind" = some none)
    (n5 : PySem.W.findIn K (.ref CF) "fires" = some none)
    (n6 : PySem.W.findIn K (.ref CD) "forest" = some none)
    (z1 : PySem.W.nsIn K PySem.mainGlobals "len" = some none)
    (z2 : PySem.W.nsIn K PySem.mainGlobals "range" = some none)
    (z3 : PySem.W.nsIn K PySem.mainGlobals "sorted" = some none)
    (z4 : PySem.W.nsIn K PySem.mainGlobals "sum" = some none)
    (z5 : PySem.W.nsIn K PySem.mainGlobals "tuple" = some none)
    (i_mostWide : ∃ t, mg "MOST_WIDE" = some (.int 5 t))
    (i_mostRows : ∃ t, mg "MOST_ROWS" = some (.int 5 t))
    (i_slowest : ∃ t, mg "SLOWEST" = some (.int 60 t))
    (i_dearest : ∃ t, mg "DEAREST" = some (.int 1000 t))
    (i_strongest : ∃ t, mg "STRONGEST" = some (.int 9 t))
    (i_lastTime : ∃ t, mg "LAST_TIME" = some (.int 100000 t))
    (i_mostBreaks : ∃ t, mg "MOST_BREAKS" = some (.int 2 t))
    (t_calm : ∃ a, mg "CALM" = some (.ref a) ∧ Fw.WT K a (Fw.nums [1, 1, 1, 1]))
    (t_numbers : ∃ a, mg "NUMBERS" = some (.ref a) ∧ Fw.WT K a (Fw.nums [1, 4, 1, 1, 0, 1, 2, 1]))
    (t_rowed : ∃ a, mg "ROWED" = some (.ref a) ∧ Fw.WT K a (Fw.nums [0, 4, 5]))
    (mkF : PySem.W.makesIn K CF = true)
    (mkD : PySem.W.makesIn K CD = true)
    (kpF : PySem.W.keepIn K (.ref CF) = true)
    (kpD : PySem.W.keepIn K (.ref CD) = true)
    (d_near : Fw.DefAt K mg "nearest" Fw.sNear ["times", "done"])
    (d_times : Fw.DefAt K mg "times_of" Fw.sTimes ["forest", "breaks"])
    (d_burntBy : Fw.DefAt K mg "burnt_by" Fw.sBurntBy ["times", "last"])
    (d_lost : Fw.DefAt K mg "lost_by" Fw.sLost ["forest", "last", "breaks"])
    (d_sets : Fw.DefAt K mg "sets_of" Fw.sSets ["places", "size"])
    (d_bestOf : Fw.DefAt K mg "best_of" Fw.sBestOf ["forest", "most", "last"])
    (d_guardsOf : Fw.DefAt K mg "guards_of" Fw.sGuardsOf ["forest", "place"])
    (d_finit : Fw.MetAt K CF "__init__" "Forest.__init__" Fw.sFInit ["self", "wide", "slownesses", "worths"])
    (d_size : Fw.MetAt K CF "size" "Forest.size" Fw.sSize ["self"])
    (d_has : Fw.MetAt K CF "has_place" "Forest.has_place" Fw.sHas ["self", "place"])
    (d_burns : Fw.MetAt K CF "burns" "Forest.burns" Fw.sBurns ["self", "place", "breaks"])
    (d_nbrs : Fw.MetAt K CF "neighbours" "Forest.neighbours" Fw.sNbrs ["self", "place"])
    (d_ways : Fw.MetAt K CF "ways_from" "Forest.ways_from" Fw.sWays ["self", "place", "breaks"])
    (d_within : Fw.DefAt K mg "are_within" Fw.sWithin ["numbers", "low", "high"])
    (d_forestOf : Fw.DefAt K mg "forest_of" Fw.sForestOf ["wide", "row"])
    (d_isWind : Fw.DefAt K mg "is_wind" Fw.sIsWind ["numbers"])
    (d_areBreaks : Fw.DefAt K mg "are_breaks" Fw.sAreBreaks ["forest", "breaks"])
    (d_told : Fw.DefAt K mg "told" Fw.sTold ["row"])
    (d_dinit : Fw.MetAt K CD "__init__" "Desk.__init__" Fw.sDInit ["self"])
    (d_begin_ : Fw.MetAt K CD "begin" "Desk.begin" Fw.sBegin ["self", "wide", "row"])
    (d_setWind : Fw.MetAt K CD "set_wind" "Desk.set_wind" Fw.sSetWind ["self", "numbers"])
    (d_setFire : Fw.MetAt K CD "set_fire" "Desk.set_fire" Fw.sSetFire ["self", "place"])
    (d_putOut : Fw.MetAt K CD "put_out" "Desk.put_out" Fw.sPutOut ["self", "place"])
    (d_comes : Fw.MetAt K CD "comes" "Desk.comes" Fw.sComes ["self", "breaks"])
    (d_burnt : Fw.MetAt K CD "burnt" "Desk.burnt" Fw.sBurnt ["self", "last", "breaks"])
    (d_best : Fw.MetAt K CD "best" "Desk.best" Fw.sBest ["self", "most", "last"])
    (d_guards : Fw.MetAt K CD "guards" "Desk.guards" Fw.sGuards ["self", "place"])
    (d_withRow : Fw.DefAt K mg "with_row" Fw.sWithRow ["desk", "word", "numbers", "row"])
    (d_plain : Fw.DefAt K mg "plain" Fw.sPlain ["desk", "word", "numbers"])
    (d_ans : Fw.DefAt K mg "answers" Fw.sAns ["calls"]) :
    ∃ fd : PySem.FuncData, (∀ (s : PySem.Shared) (us : List PySem.Value), us.length = (["calls"] : List PySem.Str).length → PySem.BindsTo s fd ⟨us, []⟩ ((["calls"] : List PySem.Str).zip us)) ∧ ∀ base : PySem.Heap, K.In base → base.Ns PySem.mainGlobals mg → L2.FnOk P w K mg base L2.CX0 9 fa fd ["calls"] (Fw.spAns K) := by
  have T : Fw.Txt K mg CF CD := ⟨⟨pgF, hdF, poF, saF⟩, ⟨pgD, hdD, poD, saD⟩, n1, n2, n3, n4, n5, n6, PySem.W.mg_of X G gF, PySem.W.mg_of X G gD, PySem.W.mg_none_of X G z1, PySem.W.mg_none_of X G z2, PySem.W.mg_none_of X G z3, PySem.W.mg_none_of X G z4, PySem.W.mg_none_of X G z5, i_mostWide, i_mostRows, i_slowest, i_dearest, i_strongest, i_lastTime, i_mostBreaks, t_calm, t_numbers, t_rowed⟩
  have A : Fw.All K mg CF CD := ⟨T, mkF, mkD, kpF, kpD, d_near, d_times, d_burntBy, d_lost, d_sets, d_bestOf, d_guardsOf, d_finit, d_size, d_has, d_burns, d_nbrs, d_ways, d_within, d_forestOf, d_isWind, d_areBreaks, d_told, d_dinit, d_begin_, d_setWind, d_setFire, d_putOut, d_comes, d_burnt, d_best, d_guards, d_withRow, d_plain, d_ans⟩
  exact A.end_ hfa
open PySem PySem.W PyProof.Rows
set_option maxRecDepth 100000 in
set_option maxHeartbeats 0 in
theorem PySem.Challenge.cw_firebreaks_s01_answers_holds : PySem.Challenge.rw_firebreaks_s01_answers.Holds := by
  w_on; k_headS; (case hw => exact ⟨[.list [.int 1, .int 1, .int 1, .int 1, .int 1]], by decide +kernel, by decide +kernel⟩)
  k_fillS
  refine L2.walk_specK (r := PySem.Challenge.rw_firebreaks_s01_answers) (k := 9) (CX := L2.CX0) (ps := ["calls"]) (sp := Fw.spAns) (by decide +kernel) rfl rfl ⟨rfl, by decide, by decide⟩ (fun w h Y => PySem.W.kIn_of Y) ?F ?S (fun _ _ _ _ z => z)
  case F =>
    intro w mg fa h Y KX G hmg
    refine' Fw.fin KX G hmg ?gF ?gD ?pgF ?hdF ?poF ?saF ?pgD ?hdD ?poD ?saD ?n1 ?n2 ?n3 ?n4 ?n5 ?n6 ?z1 ?z2 ?z3 ?z4 ?z5 ?i_mostWide ?i_mostRows ?i_slowest ?i_dearest ?i_strongest ?i_lastTime ?i_mostBreaks ?t_calm ?t_numbers ?t_rowed ?mkF ?mkD ?kpF ?kpD ?d_near ?d_times ?d_burntBy ?d_lost ?d_sets ?d_bestOf ?d_guardsOf ?d_finit ?d_size ?d_has ?d_burns ?d_nbrs ?d_ways ?d_within ?d_forestOf ?d_isWind ?d_areBreaks ?d_told ?d_dinit ?d_begin_ ?d_setWind ?d_setFire ?d_putOut ?d_comes ?d_burnt ?d_best ?d_guards ?d_withRow ?d_plain ?d_ans
    (case gF => k_is)
    (case gD => k_is)
    (case pgF => k_is)
    (case hdF => k_is)
    (case poF => k_is)
    (case saF => k_is)
    (case pgD => k_is)
    (case hdD => k_is)
    (case poD => k_is)
    (case saD => k_is)
    (case n1 => k_is)
    (case n2 => k_is)
    (case n3 => k_is)
    (case n4 => k_is)
    (case n5 => k_is)
    (case n6 => k_is)
    (case z1 => k_is)
    (case z2 => k_is)
    (case z3 => k_is)
    (case z4 => k_is)
    (case z5 => k_is)
    (case i_mostWide => (refine' Fw.int_mk KX G ?a; (case a => k_is)))
    (case i_mostRows => (refine' Fw.int_mk KX G ?a; (case a => k_is)))
    (case i_slowest => (refine' Fw.int_mk KX G ?a; (case a => k_is)))
    (case i_dearest => (refine' Fw.int_mk KX G ?a; (case a => k_is)))
    (case i_strongest => (refine' Fw.int_mk KX G ?a; (case a => k_is)))
    (case i_lastTime => (refine' Fw.int_mk KX G ?a; (case a => k_is)))
    (case i_mostBreaks => (refine' Fw.int_mk KX G ?a; (case a => k_is)))
    (case t_calm => (refine' Fw.tup_mk KX G ?a ?l ?c ?d ?s ?v; (case a => k_is); (case l => k_is); (case c => rfl); (case d => rfl); (case s => decide); (case v => exact (.cons ⟨_, rfl⟩ (.cons ⟨_, rfl⟩ (.cons ⟨_, rfl⟩ (.cons ⟨_, rfl⟩ .nil)))))))
    (case t_numbers => (refine' Fw.tup_mk KX G ?a ?l ?c ?d ?s ?v; (case a => k_is); (case l => k_is); (case c => rfl); (case d => rfl); (case s => decide); (case v => exact (.cons ⟨_, rfl⟩ (.cons ⟨_, rfl⟩ (.cons ⟨_, rfl⟩ (.cons ⟨_, rfl⟩ (.cons ⟨_, rfl⟩ (.cons ⟨_, rfl⟩ (.cons ⟨_, rfl⟩ (.cons ⟨_, rfl⟩ .nil)))))))))))
    (case t_rowed => (refine' Fw.tup_mk KX G ?a ?l ?c ?d ?s ?v; (case a => k_is); (case l => k_is); (case c => rfl); (case d => rfl); (case s => decide); (case v => exact (.cons ⟨_, rfl⟩ (.cons ⟨_, rfl⟩ (.cons ⟨_, rfl⟩ .nil))))))
    (case mkF => k_is)
    (case mkD => k_is)
    (case kpF => k_is)
    (case kpD => k_is)
    (case d_near => (refine' Fw.def_mk KX G ?a ?l ?c ?k (fun _ _ _ _ _ _ us hl => match us, hl with | [_, _], _ => rfl); (case a => k_is); (case l => k_is); (case c => k_is); (case k => k_is)))
    (case d_times => (refine' Fw.def_mk KX G ?a ?l ?c ?k (fun _ _ _ _ _ _ us hl => match us, hl with | [_, _], _ => rfl); (case a => k_is); (case l => k_is); (case c => k_is); (case k => k_is)))
    (case d_burntBy => (refine' Fw.def_mk KX G ?a ?l ?c ?k (fun _ _ _ _ _ _ us hl => match us, hl with | [_, _], _ => rfl); (case a => k_is); (case l => k_is); (case c => k_is); (case k => k_is)))
    (case d_lost => (refine' Fw.def_mk KX G ?a ?l ?c ?k (fun _ _ _ _ _ _ us hl => match us, hl with | [_, _, _], _ => rfl); (case a => k_is); (case l => k_is); (case c => k_is); (case k => k_is)))
    (case d_sets => (refine' Fw.def_mk KX G ?a ?l ?c ?k (fun _ _ _ _ _ _ us hl => match us, hl with | [_, _], _ => rfl); (case a => k_is); (case l => k_is); (case c => k_is); (case k => k_is)))
    (case d_bestOf => (refine' Fw.def_mk KX G ?a ?l ?c ?k (fun _ _ _ _ _ _ us hl => match us, hl with | [_, _, _], _ => rfl); (case a => k_is); (case l => k_is); (case c => k_is); (case k => k_is)))
    (case d_guardsOf => (refine' Fw.def_mk KX G ?a ?l ?c ?k (fun _ _ _ _ _ _ us hl => match us, hl with | [_, _], _ => rfl); (case a => k_is); (case l => k_is); (case c => k_is); (case k => k_is)))
    (case d_finit => (refine' Fw.met_mk ?a ?i ?l ?c ?k (fun _ _ _ _ _ _ us hl => match us, hl with | [_, _, _, _], _ => rfl); (case a => k_is); (case i => k_is); (case l => k_is); (case c => k_is); (case k => k_is)))
    (case d_size => (refine' Fw.met_mk ?a ?i ?l ?c ?k (fun _ _ _ _ _ _ us hl => match us, hl with | [_], _ => rfl); (case a => k_is); (case i => k_is); (case l => k_is); (case c => k_is); (case k => k_is)))
    (case d_has => (refine' Fw.met_mk ?a ?i ?l ?c ?k (fun _ _ _ _ _ _ us hl => match us, hl with | [_, _], _ => rfl); (case a => k_is); (case i => k_is); (case l => k_is); (case c => k_is); (case k => k_is)))
    (case d_burns => (refine' Fw.met_mk ?a ?i ?l ?c ?k (fun _ _ _ _ _ _ us hl => match us, hl with | [_, _, _], _ => rfl); (case a => k_is); (case i => k_is); (case l => k_is); (case c => k_is); (case k => k_is)))
    (case d_nbrs => (refine' Fw.met_mk ?a ?i ?l ?c ?k (fun _ _ _ _ _ _ us hl => match us, hl with | [_, _], _ => rfl); (case a => k_is); (case i => k_is); (case l => k_is); (case c => k_is); (case k => k_is)))
    (case d_ways => (refine' Fw.met_mk ?a ?i ?l ?c ?k (fun _ _ _ _ _ _ us hl => match us, hl with | [_, _, _], _ => rfl); (case a => k_is); (case i => k_is); (case l => k_is); (case c => k_is); (case k => k_is)))
    (case d_within => (refine' Fw.def_mk KX G ?a ?l ?c ?k (fun _ _ _ _ _ _ us hl => match us, hl with | [_, _, _], _ => rfl); (case a => k_is); (case l => k_is); (case c => k_is); (case k => k_is)))
    (case d_forestOf => (refine' Fw.def_mk KX G ?a ?l ?c ?k (fun _ _ _ _ _ _ us hl => match us, hl with | [_, _], _ => rfl); (case a => k_is); (case l => k_is); (case c => k_is); (case k => k_is)))
    (case d_isWind => (refine' Fw.def_mk KX G ?a ?l ?c ?k (fun _ _ _ _ _ _ us hl => match us, hl with | [_], _ => rfl); (case a => k_is); (case l => k_is); (case c => k_is); (case k => k_is)))
    (case d_areBreaks => (refine' Fw.def_mk KX G ?a ?l ?c ?k (fun _ _ _ _ _ _ us hl => match us, hl with | [_, _], _ => rfl); (case a => k_is); (case l => k_is); (case c => k_is); (case k => k_is)))
    (case d_told => (refine' Fw.def_mk KX G ?a ?l ?c ?k (fun _ _ _ _ _ _ us hl => match us, hl with | [_], _ => rfl); (case a => k_is); (case l => k_is); (case c => k_is); (case k => k_is)))
    (case d_dinit => (refine' Fw.met_mk ?a ?i ?l ?c ?k (fun _ _ _ _ _ _ us hl => match us, hl with | [_], _ => rfl); (case a => k_is); (case i => k_is); (case l => k_is); (case c => k_is); (case k => k_is)))
    (case d_begin_ => (refine' Fw.met_mk ?a ?i ?l ?c ?k (fun _ _ _ _ _ _ us hl => match us, hl with | [_, _, _], _ => rfl); (case a => k_is); (case i => k_is); (case l => k_is); (case c => k_is); (case k => k_is)))
    (case d_setWind => (refine' Fw.met_mk ?a ?i ?l ?c ?k (fun _ _ _ _ _ _ us hl => match us, hl with | [_, _], _ => rfl); (case a => k_is); (case i => k_is); (case l => k_is); (case c => k_is); (case k => k_is)))
    (case d_setFire => (refine' Fw.met_mk ?a ?i ?l ?c ?k (fun _ _ _ _ _ _ us hl => match us, hl with | [_, _], _ => rfl); (case a => k_is); (case i => k_is); (case l => k_is); (case c => k_is); (case k => k_is)))
    (case d_putOut => (refine' Fw.met_mk ?a ?i ?l ?c ?k (fun _ _ _ _ _ _ us hl => match us, hl with | [_, _], _ => rfl); (case a => k_is); (case i => k_is); (case l => k_is); (case c => k_is); (case k => k_is)))
    (case d_comes => (refine' Fw.met_mk ?a ?i ?l ?c ?k (fun _ _ _ _ _ _ us hl => match us, hl with | [_, _], _ => rfl); (case a => k_is); (case i => k_is); (case l => k_is); (case c => k_is); (case k => k_is)))
    (case d_burnt => (refine' Fw.met_mk ?a ?i ?l ?c ?k (fun _ _ _ _ _ _ us hl => match us, hl with | [_, _, _], _ => rfl); (case a => k_is); (case i => k_is); (case l => k_is); (case c => k_is); (case k => k_is)))
    (case d_best => (refine' Fw.met_mk ?a ?i ?l ?c ?k (fun _ _ _ _ _ _ us hl => match us, hl with | [_, _, _], _ => rfl); (case a => k_is); (case i => k_is); (case l => k_is); (case c => k_is); (case k => k_is)))
    (case d_guards => (refine' Fw.met_mk ?a ?i ?l ?c ?k (fun _ _ _ _ _ _ us hl => match us, hl with | [_, _], _ => rfl); (case a => k_is); (case i => k_is); (case l => k_is); (case c => k_is); (case k => k_is)))
    (case d_withRow => (refine' Fw.def_mk KX G ?a ?l ?c ?k (fun _ _ _ _ _ _ us hl => match us, hl with | [_, _, _, _], _ => rfl); (case a => k_is); (case l => k_is); (case c => k_is); (case k => k_is)))
    (case d_plain => (refine' Fw.def_mk KX G ?a ?l ?c ?k (fun _ _ _ _ _ _ us hl => match us, hl with | [_, _, _], _ => rfl); (case a => k_is); (case l => k_is); (case c => k_is); (case k => k_is)))
    (case d_ans => (refine' Fw.def_mk KX G ?a ?l ?c ?k (fun _ _ _ _ _ _ us hl => match us, hl with | [_], _ => rfl); (case a => k_is); (case l => k_is); (case c => k_is); (case k => k_is)))
  case S =>
    intro K H xs a hO hwi hask hx
    cases hx with
    | cons h1 h2 =>
      cases h2
      cases h1 with
      | lst hs ha =>
        have e := L2.ints_dw a.1 _ ha
        subst e
        exact ⟨_, a.1, rfl, hs, hask, fun H' p hp => .lst (L2.SqL.of hp) (L2.dw_ints _)⟩
#print axioms PySem.Challenge.cw_firebreaks_s01_answers_holds
